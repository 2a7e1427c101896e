/- Each call computes its plain function. -/
import Derived.Test.YthcbemnflgjadaaProg
import Derived.Test.YthcbemnflgjadaaShP0
import Derived.Test.YthcbemnflgjadaaShWA
import Derived.Test.YthcbemnflgjadaaShWD
import Derived.Test.YthcbemnflgjadaaShWH
import Derived.Test.YthcbemnflgjadaaShWI
set_option linter.all false
namespace Go.Proofs.Ythcbemnflgjadaa
open Go Go.RowKit
open Rep (rep)
open KRep (kv)
open VRep (rv)
abbrev K25c1 (m : Option Addr) (y : Yard) (p : Nat) (ab : Option Addr) (ad : Nat) : List SC := [.slice m y.room.length p, .slice ab y.buses.length ad, .int .i64 y.broken]
abbrev K25m2 (a_lanes : Option Addr) (lanes : List Int) (c_lanes : Nat) : TM := [(tP 2 0 0), (tS 1 a_lanes lanes.length c_lanes)]
abbrev K25m3 (x_v11 : Int) (a : Option Addr) (x_v10 : List Int) (d : Nat) (a_lanes : Option Addr) (lanes : List Int) (c_lanes : Nat) : TM := (tI 6 x_v11) :: (tS 5 a x_v10.length d) :: (K25m2 a_lanes lanes c_lanes)
set_option maxRecDepth 100000 in
set_option maxHeartbeats 4000000 in
theorem ref_IsLanes_ok (n : Nat) {h : Heap} {w : World} (hh : Has h w) (y : Yard) {cs_y : List Value} (hx_y : rep h y cs_y) (lanes : List Int) {a_lanes : Option Addr} {c_lanes : Nat} (hr_lanes : RepS h a_lanes c_lanes lanes) {r : Bool} (H : ref_IsLanes n y lanes = some r) :
  Calls Try.prog 25 #[.agg cs_y.toArray, .slice a_lanes lanes.length c_lanes] w (Ret (fun h v => v = .bool r) h w) := by
 obtain ⟨_, _, rfl, ⟨m, p, rfl, au⟩, ⟨_, _, rfl, ⟨ab, ad, rfl, b7⟩, rfl⟩⟩ := hx_y
 refine enter 58 [.agg (K25c1 m y p ab ad), .c (.slice a_lanes lanes.length c_lanes)] Try.func25 rfl rfl rfl rfl fun t hk => ?_
 have hm := Mem.begin h w hh
 unfold ref_IsLanes at H
 refine wp_seq (wp_region_from (wl fun K hK => ?_))
 refine wb (.agg (K25c1 m y p ab ad)) hk hm fun g ey f5 (ct : Kn 58 [(g, 0)] [(tP 2 0 0), (tA 0 (K25c1 m y p ab ad)), (tS 1 a_lanes lanes.length c_lanes)] ey) ak => hK _ _ ?_
 refine Rk 1 1 (K25m2 a_lanes lanes c_lanes) ct ak fun fh cy => ?_
 refine wf (wp_seq (wp_seq (wp_region_from (Rk 0 6 ((tB 12 (((lanes.length : Nat) : Int) != ((y.buses.length : Nat) : Int))) :: (K25m2 a_lanes lanes c_lanes)) cy ak fun fi bc => ?_))))
 refine wf (wC ((((lanes.length : Nat) : Int) != ((y.buses.length : Nat) : Int))) bc (fun a7 => ?_) (fun a7 => ?_))
 ·
  rw [a7, cond_true] at H
  refine wp_seq (wp_region_from (Rk 0 1 [(tB 4 false)] bc ak fun fl c8 => ?_))
  refine wf (wp_ret ?_)
  obtain rfl := Option.some.inj H
  exact rt (.one (.c (.bool false))) c8 ak rfl
 ·
  rw [a7, cond_false] at H
  refine wp_skip (wp_seq (wp_region_from (Rk 0 3 ((tI 15 ((y.room.length : Nat) : Int)) :: (K25m2 a_lanes lanes c_lanes)) bc ak fun fo db => ?_)))
  obtain ⟨x16, ex16, H⟩ := bnd H
  obtain ⟨dz, d5, b9⟩ := mk_some ex16
  refine wl fun K hK => ?_
  refine wp_makeSlice 3 1 8 [.int .i64 0] (((y.room.length : Nat) : Int)) db ak rfl rfl (by decide) (by rfl) (by kernel_rfl) (by kernel_rfl) (by rfl) dz d5 (by decide) fun am ew e1 (bv : Kn 58 [(g, 0)] [(16, .one (.c (.slice am ((((y.room.length : Nat) : Int) : Int).toNat) ((((y.room.length : Nat) : Int) : Int).toNat)))), (15, .one (.c (.int .i64 ((y.room.length : Nat) : Int)))), (2, .one (.c (.ptr 0 0))), (1, .one (.c (.slice a_lanes lanes.length c_lanes)))] ew) (a2 : Mem ⟨w, h, noX⟩ h [(g, 0)] [⟨[.slice m y.room.length p, .slice ab y.buses.length ad, .int .i64 y.broken], some 25⟩] [⟨am, (((y.room.length : Nat) : Int) : Int).toNat, (((y.room.length : Nat) : Int) : Int).toNat, 3, 1, (List.flatten (List.replicate (((y.room.length : Nat) : Int) : Int).toNat ([.int .i64 0] : List Value))), 0⟩] e1) => ?_
  have bu : Cells h x16 (List.flatten (List.replicate (((y.room.length : Nat) : Int) : Int).toNat ([.int .i64 0] : List Value))) := by rw [b9]; exact Cells.replicate (α := Int) (x := 0) rep_int _
  have bw : (((y.room.length : Nat) : Int) : Int).toNat = x16.length := by rw [b9]; simp
  rw [bw] at bv a2
  skip
  rw [bw] at bu
  refine hK _ _ ?_
  refine Rk 4 1 ((tS 5 am x16.length x16.length) :: (K25m2 a_lanes lanes c_lanes)) bv a2 fun ft dh => ?_
  refine wf (wp_seq (wp_seq (wp_region_from (Rk 0 1 ((tI 6 0) :: (tS 5 am x16.length x16.length) :: (K25m2 a_lanes lanes c_lanes)) dh a2 fun fu di => ?_))))
  refine wf ?_
  obtain ⟨cb, br, H⟩ := bnd H
  refine wp_mid' (fun a' w' => ∃ (a4 : List Int) (bo : Option Addr) (bq : Nat) (bn : List Value) (bl : Array Value) (ax : Heap), a' = ⟨bl, []⟩ ∧ Kn 58 [(g, 0)] [] bl ∧ Mem ⟨w, h, noX⟩ ax [(g, 0)] [⟨(K25c1 m y p ab ad), some 25⟩] [⟨bo, a4.length, bq, 3, 1, bn, 0⟩] w' ∧ Heap.le h ax ∧ Cells ax a4 bn ∧ cb = .go a4) ?_ ?_
  ·
   refine wp_block ?_
   refine wp_loop_n (fun eo a' w' => ∃ (x_v10 : List Int) (x_v11 : Int) (a : Option Addr) (d : Nat) (u : List Value) (bm : Array Value) (ay : Heap), a' = ⟨bm, []⟩ ∧ Kn 58 [(g, 0)] (K25m3 x_v11 a x_v10 d a_lanes lanes c_lanes) bm ∧ Mem ⟨w, h, noX⟩ ay [(g, 0)] [⟨(K25c1 m y p ab ad), some 25⟩] [⟨a, x_v10.length, d, 3, 1, u, 0⟩] w' ∧ Heap.le h ay ∧ Cells ay x_v10 u ∧ ref_IsLanes_l1 eo y lanes x_v10 x_v11 = some cb) n ?_ ?_
   ·
    exact Exists.intro x16 ⟨0, am, x16.length, (List.flatten (List.replicate x16.length ([.int .i64 0] : List Value))), _, _, rfl, di.kp, a2, (Heap.le_refl _), bu, br⟩
   ·
    rintro a3 _ f3 ⟨x_v10, x_v11, a, d, u, bm, ay, rfl, dj, aj, ao, af, f⟩
    clear br
    obtain _ | a3 := a3
    ·
     rw [ref_IsLanes_l1] at f; cases f
    rw [ref_IsLanes_l1] at f
    replace au := au.mono ao
    replace b7 := b7.mono ao
    replace hr_lanes := hr_lanes.mono ao
    refine wp_seq (wp_seq (wp_region_from (Rk 0 4 ((tB 20 (decide (x_v11 < ((lanes.length : Nat) : Int)))) :: (K25m3 x_v11 a x_v10 d a_lanes lanes c_lanes)) dj aj fun fv be => ?_)))
    refine wf (wC (decide (x_v11 < ((lanes.length : Nat) : Int))) be (fun a9 => ?_) (fun a9 => ?_))
    ·
     rw [a9, cond_true] at f
     refine wp_skip (wp_seq (wp_block (wp_seq (wp_seq (wp_region_G (by kernel_rfl) ?_)))))
     replace aj := aj.drew
     refine wpG_of_D [] [(g, 0)] [⟨(K25c1 m y p ab ad), some 25⟩] ?_
     refine Dr [0, 1] [1, 0] ((tI 24 x_v11) :: (tS 23 a_lanes lanes.length c_lanes) :: (K25m3 x_v11 a x_v10 d a_lanes lanes c_lanes)) be aj fun fw dk => ?_
     obtain ⟨x25, ex25, f⟩ := bnd f
     obtain ⟨d0, d6, en⟩ := idx_some ex25
     obtain ⟨q, s, e8, ch, ee, cq⟩ := hr_lanes.get (by decide) en
     obtain rfl := ee
     have bi := aj.addPlc (b := q) (o := s + (x_v11 : Int).toNat * 1) (cs := [.int .i64 x25]) (fun j c hj => cq j _ (map_get hj)) rfl (by kernel_rfl) (by kernel_rfl)
     refine D_index 2 (x_v11) [.int .i64 x25] (fun _ _ _ _ _ h => h) rfl rfl (rfl) rfl (by decide) (by kernel_rfl) (by kernel_rfl) dk aj.plOk (by rfl) (by rfl) (by rfl) ch (by rfl) d0 d6 (by kernel_rfl) fun ex (dl : Kn 58 [(g, 0), (q, s + (x_v11 : Int).toNat * 1)] ((tP 25 1 0) :: (tI 24 x_v11) :: (tS 23 a_lanes lanes.length c_lanes) :: (K25m3 x_v11 a x_v10 d a_lanes lanes c_lanes)) ex) => ?_
     refine Dr [3, 4, 5, 6, 7] (dn 7) ((tI 30 (IntKind.i64.wrap (((y.room.length : Nat) : Int) - 1))) :: (tI 26 x25) :: (K25m3 x_v11 a x_v10 d a_lanes lanes c_lanes)) dl bi fun fx dm => ?_
     obtain ⟨x31, ex31, f⟩ := bnd f
     refine Dl 8 fun K hK => ?_
     refine wc [.c (.int .i64 x25), .c (.int .i64 0), .c (.int .i64 (IntKind.i64.wrap (((y.room.length : Nat) : Int) - 1)))] dm bi (ref_In_ok a3 bi.has x25 0 (IntKind.i64.wrap (((y.room.length : Nat) : Int) - 1)) ex31) fun f1 a6 f4 cd az al => ?_
     replace au := au.mono az
     replace hr_lanes := hr_lanes.mono az
     replace af := af.mono az
     obtain rfl := cd
     refine ⟨.one (.c (.bool x31)), rfl, fun ez (dp : Kn 58 [(g, 0), (q, s + (x_v11 : Int).toNat * 1)] ((tB 31 x31) :: (tI 30 (IntKind.i64.wrap (((y.room.length : Nat) : Int) - 1))) :: (tI 26 x25) :: (K25m3 x_v11 a x_v10 d a_lanes lanes c_lanes)) ez) => hK _ _ al.plOk ?_⟩
     refine Dr [9] (dn 9) ((tB 32 (!x31)) :: (K25m3 x_v11 a x_v10 d a_lanes lanes c_lanes)) dp al fun fy bf => ?_
     refine wpD_end (by kernel_rfl) (wC ((!x31)) bf (fun ba => ?_) (fun ba => ?_))
     ·
      rw [ba, cond_true] at f
      refine wp_seq (wp_region_from (Rk 0 1 [(tB 4 false)] bf al fun fz dq => ?_))
      refine wf (wp_ret ?_)
      obtain rfl := Option.some.inj f
      obtain rfl := Option.some.inj H
      exact rt (.one (.c (.bool false))) dq al rfl
     ·
      rw [ba, cond_false] at f
      refine wp_skip (wp_seq (wp_region_from (Rk 0 3 ((tI 35 x_v11) :: (tS 34 a_lanes lanes.length c_lanes) :: (tS 33 a x_v10.length d) :: (K25m3 x_v11 a x_v10 d a_lanes lanes c_lanes)) bf al fun f0 dr => ?_)))
      obtain ⟨x36, ex36, f⟩ := bnd f
      obtain ⟨d1, d7, eg⟩ := idx_some ex36
      obtain ⟨z, aa, e9, ci, ef, cr⟩ := hr_lanes.get (by decide) eg
      obtain rfl := ef
      have bh := al.addPlc (b := z) (o := aa + (x_v11 : Int).toNat * 1) (cs := [.int .i64 x36]) (fun j c hj => cr j _ (map_get hj)) rfl (by kernel_rfl) (by kernel_rfl)
      refine R_index 3 (x_v11) rfl rfl (rfl) rfl (by decide) dr (by rfl) (by rfl) (by rfl) ci (by rfl) d1 d7 (by kernel_rfl) fun ep (cu : Kn 58 [(g, 0), (q, s + (x_v11 : Int).toNat * 1), (z, aa + (x_v11 : Int).toNat * 1)] ((tP 36 2 0) :: (tI 35 x_v11) :: (tS 34 a_lanes lanes.length c_lanes) :: (tS 33 a x_v10.length d) :: (K25m3 x_v11 a x_v10 d a_lanes lanes c_lanes)) ep) => ?_
      refine Rk 4 1 ((tI 37 x36) :: (tS 33 a x_v10.length d) :: (K25m3 x_v11 a x_v10 d a_lanes lanes c_lanes)) cu bh fun ff cv => ?_
      obtain ⟨x38, ex38, f⟩ := bnd f
      obtain ⟨b1, b4, eh⟩ := idx_some ex38
      have ds := lt_of_idx b1 b4
      obtain ⟨e2, d8, cj⟩ := cells_get (sz := 1) rfl af eh
      obtain rfl := d8
      obtain ⟨ac, bs⟩ := row_addr bh (i := 0) rfl (b0 := 0 + (x36 : Int).toNat * 1) (Nat.lt_of_lt_of_le (Nat.lt_add_of_pos_right (by decide)) (cells_fit (sz := 1) rfl af ds))
      have a0 := bh.addPlc (b := ac) (o := 0 + (x36 : Int).toNat * 1) (cs := []) (fun j c hj => by simp at hj) rfl (by kernel_rfl) (by kernel_rfl)
      have ck : ∀ (e : Env) k c, ([.int .i64 x38] : List SC)[k]? = some c → (u)[0 + (x36 : Int).toNat * 1 + k]? = some (c.den e) := fun e k c hk => cj k _ (map_get hk)
      refine R_index 5 (x36) rfl rfl (rfl) rfl (by decide) cv (by rfl) (by rfl) (by rfl) bs (by rfl) b1 b4 (by kernel_rfl) fun er (cw : Kn 58 [(g, 0), (q, s + (x_v11 : Int).toNat * 1), (z, aa + (x_v11 : Int).toNat * 1), (ac, 0 + (x36 : Int).toNat * 1)] ((tP 38 3 0) :: (tI 37 x36) :: (tS 33 a x_v10.length d) :: (K25m3 x_v11 a x_v10 d a_lanes lanes c_lanes)) er) => ?_
      refine R_runk 6 2 [40, 37, 33, 6, 5, 2, 1] ((tI 40 (IntKind.i64.wrap (x38 + 1))) :: (tI 37 x36) :: (tS 33 a x_v10.length d) :: (K25m3 x_v11 a x_v10 d a_lanes lanes c_lanes)) cw (PlOk.peek a0.plOk a0 0 3 rfl rfl bs [.int .i64 x38] (ck _)) (by kernel_rfl) fun fg cx => ?_
      obtain ⟨x41, ex41, f⟩ := bnd f
      obtain ⟨b2, b5, ei⟩ := idx_some ex41
      have bg := lt_of_idx b2 b5
      obtain ⟨e3, d9, cl⟩ := cells_get (sz := 1) rfl af ei
      obtain rfl := d9
      obtain ⟨ae, bt⟩ := row_addr a0 (i := 0) rfl (b0 := 0 + (x36 : Int).toNat * 1) (Nat.lt_of_lt_of_le (Nat.lt_add_of_pos_right (by decide)) (cells_fit (sz := 1) rfl af bg))
      have du := a0.addPlc (b := ae) (o := 0 + (x36 : Int).toNat * 1) (cs := []) (fun j c hj => by simp at hj) rfl (by kernel_rfl) (by kernel_rfl)
      have fa : ∀ (e : Env) k c, ([.int .i64 x41] : List SC)[k]? = some c → (u)[0 + (x36 : Int).toNat * 1 + k]? = some (c.den e) := fun e k c hk => cl k _ (map_get hk)
      refine R_index 8 (x36) rfl rfl (rfl) rfl (by decide) cx (by rfl) (by rfl) (by rfl) bt (by rfl) b2 b5 (by kernel_rfl) fun bk (cz : Kn 58 [(g, 0), (q, s + (x_v11 : Int).toNat * 1), (z, aa + (x_v11 : Int).toNat * 1), (ac, 0 + (x36 : Int).toNat * 1), (ae, 0 + (x36 : Int).toNat * 1)] ((tP 41 4 0) :: (tI 40 (IntKind.i64.wrap (x38 + 1))) :: (tI 37 x36) :: (tS 33 a x_v10.length d) :: (K25m3 x_v11 a x_v10 d a_lanes lanes c_lanes)) bk) => ?_
      obtain ⟨l, cc, f⟩ := bnd f
      obtain ⟨fd, fe, b8⟩ := upd_some cc
      refine wl fun K hK => ?_
      refine wp_storeRow 0 4 0 (0 + (x36 : Int).toNat * 1) (.c (.int .i64 (IntKind.i64.wrap (x38 + 1)))) cz du rfl rfl (by rfl) (by rfl) rfl rfl bt rfl (by kernel_rfl) (cells_fit (sz := 1) rfl af bg) fun e0 c0 dv => ?_
      have bb : Cells a6 l (u.take (0 + (x36 : Int).toNat * 1 + 0) ++ ([.int .i64 (IntKind.i64.wrap (x38 + 1))] : List Value) ++ u.drop (0 + (x36 : Int).toNat * 1 + 0 + 1)) := by rw [b8]; exact cells_set (sz := 1) rfl af bg (rep_int : rep a6 (IntKind.i64.wrap (x38 + 1) : Int) _)
      have bz : x_v10.length = l.length := by rw [b8]; simp
      have c1 : Kn 58 [(g, 0), (q, s + (x_v11 : Int).toNat * 1), (z, aa + (x_v11 : Int).toNat * 1), (ac, 0 + (x36 : Int).toNat * 1), (ae, 0 + (x36 : Int).toNat * 1)] [(41, .one (.c (.ptr 4 0))), (40, .one (.c (.int .i64 (IntKind.i64.wrap (x38 + 1))))), (37, .one (.c (.int .i64 x36))), (33, .one (.c (.slice a l.length d))), (6, .one (.c (.int .i64 x_v11))), (5, .one (.c (.slice a l.length d))), (2, .one (.c (.ptr 0 0))), (1, .one (.c (.slice a_lanes lanes.length c_lanes)))] bk := by rw [← bz]; exact c0
      have ap : Mem ⟨w, h, noX⟩ a6 [(g, 0), (q, s + (x_v11 : Int).toNat * 1), (z, aa + (x_v11 : Int).toNat * 1), (ac, 0 + (x36 : Int).toNat * 1), (ae, 0 + (x36 : Int).toNat * 1)] [⟨[.slice m y.room.length p, .slice ab y.buses.length ad, .int .i64 y.broken], some 25⟩, ⟨[.int .i64 x25], none⟩, ⟨[.int .i64 x36], none⟩, ⟨[], none⟩, ⟨[], none⟩] [⟨a, l.length, d, 3, 1, (u.take (0 + (x36 : Int).toNat * 1 + 0) ++ ([.int .i64 (IntKind.i64.wrap (x38 + 1))] : List Value) ++ u.drop (0 + (x36 : Int).toNat * 1 + 0 + 1)), 0⟩] e0 := by rw [← bz]; exact dv
      refine hK _ _ ?_
      have c2 : Kn 58 [(g, 0), (q, s + (x_v11 : Int).toNat * 1), (z, aa + (x_v11 : Int).toNat * 1), (ac, 0 + (x36 : Int).toNat * 1), (ae, 0 + (x36 : Int).toNat * 1)] ((tI 6 x_v11) :: (tS 5 a l.length d) :: (K25m2 a_lanes lanes c_lanes)) bk := c1.kp
      refine wf (wp_seq (wp_region_G (by kernel_rfl) ?_))
      replace ap := ap.drew
      refine wpG_of_D [] [(g, 0), (q, s + (x_v11 : Int).toNat * 1), (z, aa + (x_v11 : Int).toNat * 1), (ac, 0 + (x36 : Int).toNat * 1), (ae, 0 + (x36 : Int).toNat * 1)] [⟨(K25c1 m y p ab ad), some 25⟩, ⟨[.int .i64 x25], none⟩, ⟨[.int .i64 x36], none⟩, ⟨[], none⟩, ⟨[], none⟩] ?_
      refine Dr [0, 1, 2] [2, 1, 0] ((tI 44 x_v11) :: (tS 43 a_lanes lanes.length c_lanes) :: (tS 42 a l.length d) :: (tI 6 x_v11) :: (tS 5 a l.length d) :: (K25m2 a_lanes lanes c_lanes)) c2 ap fun fj c3 => ?_
      obtain ⟨x45, ex45, f⟩ := bnd f
      obtain ⟨dw, d2, ej⟩ := idx_some ex45
      obtain ⟨an, av, e4, ce, ea, cm⟩ := hr_lanes.get (by decide) ej
      obtain rfl := ea
      have a1 := ap.addPlc (b := an) (o := av + (x_v11 : Int).toNat * 1) (cs := [.int .i64 x45]) (fun j c hj => cm j _ (map_get hj)) rfl (by kernel_rfl) (by kernel_rfl)
      refine D_index 3 (x_v11) [.int .i64 x45] (fun _ _ _ _ _ h => h) rfl rfl (rfl) rfl (by decide) (by kernel_rfl) (by kernel_rfl) c3 ap.plOk (by rfl) (by rfl) (by rfl) ce (by rfl) dw d2 (by kernel_rfl) fun es (c4 : Kn 58 [(g, 0), (q, s + (x_v11 : Int).toNat * 1), (z, aa + (x_v11 : Int).toNat * 1), (ac, 0 + (x36 : Int).toNat * 1), (ae, 0 + (x36 : Int).toNat * 1), (an, av + (x_v11 : Int).toNat * 1)] ((tP 45 5 0) :: (tI 44 x_v11) :: (tS 43 a_lanes lanes.length c_lanes) :: (tS 42 a l.length d) :: (tI 6 x_v11) :: (tS 5 a l.length d) :: (K25m2 a_lanes lanes c_lanes)) es) => ?_
      refine Dr [4] (dn 4) ((tI 46 x45) :: (tS 42 a l.length d) :: (tI 6 x_v11) :: (tS 5 a l.length d) :: (K25m2 a_lanes lanes c_lanes)) c4 a1 fun fk c5 => ?_
      obtain ⟨x47, ex47, f⟩ := bnd f
      obtain ⟨b3, b6, ek⟩ := idx_some ex47
      have dt := lt_of_idx b3 b6
      obtain ⟨e5, eb, cn⟩ := cells_get (sz := 1) rfl bb ek
      obtain rfl := eb
      obtain ⟨aw, ag⟩ := row_addr a1 (i := 0) rfl (b0 := 0 + (x45 : Int).toNat * 1) (Nat.lt_of_lt_of_le (Nat.lt_add_of_pos_right (by decide)) (cells_fit (sz := 1) rfl bb dt))
      have aq := a1.addPlc (b := aw) (o := 0 + (x45 : Int).toNat * 1) (cs := []) (fun j c hj => by simp at hj) rfl (by kernel_rfl) (by kernel_rfl)
      have ai : ∀ (e : Env) k c, ([.int .i64 x47] : List SC)[k]? = some c → ((u.take (0 + (x36 : Int).toNat * 1 + 0) ++ ([.int .i64 (IntKind.i64.wrap (x38 + 1))] : List Value) ++ u.drop (0 + (x36 : Int).toNat * 1 + 0 + 1)))[0 + (x45 : Int).toNat * 1 + k]? = some (c.den e) := fun e k c hk => cn k _ (map_get hk)
      refine D_index 5 (x45) [.int .i64 x47] (fun _ _ _ _ _ h => h) rfl rfl (rfl) rfl (by decide) (by kernel_rfl) (by kernel_rfl) c5 a1.plOk (by rfl) (by rfl) (by rfl) ag (by rfl) b3 b6 (by kernel_rfl) fun et (c6 : Kn 58 [(g, 0), (q, s + (x_v11 : Int).toNat * 1), (z, aa + (x_v11 : Int).toNat * 1), (ac, 0 + (x36 : Int).toNat * 1), (ae, 0 + (x36 : Int).toNat * 1), (an, av + (x_v11 : Int).toNat * 1), (aw, 0 + (x45 : Int).toNat * 1)] ((tP 47 6 0) :: (tI 46 x45) :: (tS 42 a l.length d) :: (tI 6 x_v11) :: (tS 5 a l.length d) :: (K25m2 a_lanes lanes c_lanes)) et) => ?_
      refine D_run [6, 7, 8, 9, 10] [10, 9, 8, 7, 6, 5, 4, 3, 2, 1, 0] [52, 51, 50, 48, 6, 5, 2, 1] ((tI 52 x_v11) :: (tS 51 a_lanes lanes.length c_lanes) :: (tS 50 m y.room.length p) :: (tI 48 x47) :: (tI 6 x_v11) :: (tS 5 a l.length d) :: (K25m2 a_lanes lanes c_lanes)) (fun _ _ _ _ _ h => h) c6 (PlOk.peek aq.plOk aq 0 6 rfl rfl ag [.int .i64 x47] (ai _)) (by kernel_rfl) (by rfl) (by kernel_rfl) fun fm c7 => ?_
      obtain ⟨x53, ex53, f⟩ := bnd f
      obtain ⟨dx, d3, el⟩ := idx_some ex53
      obtain ⟨a5, bj, e6, cf, ec, co⟩ := hr_lanes.get (by decide) el
      obtain rfl := ec
      have ar := aq.addPlc (b := a5) (o := bj + (x_v11 : Int).toNat * 1) (cs := [.int .i64 x53]) (fun j c hj => co j _ (map_get hj)) rfl (by kernel_rfl) (by kernel_rfl)
      refine D_index 11 (x_v11) [.int .i64 x53] (fun _ _ _ _ _ h => h) rfl rfl (rfl) rfl (by decide) (by kernel_rfl) (by kernel_rfl) c7 (PlOk.peek aq.plOk aq 0 6 rfl rfl ag [.int .i64 x47] (ai _)) (by rfl) (by rfl) (by rfl) cf (by rfl) dx d3 (by kernel_rfl) fun eu (c9 : Kn 58 [(g, 0), (q, s + (x_v11 : Int).toNat * 1), (z, aa + (x_v11 : Int).toNat * 1), (ac, 0 + (x36 : Int).toNat * 1), (ae, 0 + (x36 : Int).toNat * 1), (an, av + (x_v11 : Int).toNat * 1), (aw, 0 + (x45 : Int).toNat * 1), (a5, bj + (x_v11 : Int).toNat * 1)] ((tP 53 7 0) :: (tI 52 x_v11) :: (tS 51 a_lanes lanes.length c_lanes) :: (tS 50 m y.room.length p) :: (tI 48 x47) :: (tI 6 x_v11) :: (tS 5 a l.length d) :: (K25m2 a_lanes lanes c_lanes)) eu) => ?_
      refine D_run [12] [12, 11, 10, 9, 8, 7, 6, 5, 4, 3, 2, 1, 0] [54, 50, 48, 6, 5, 2, 1] ((tI 54 x53) :: (tS 50 m y.room.length p) :: (tI 48 x47) :: (tI 6 x_v11) :: (tS 5 a l.length d) :: (K25m2 a_lanes lanes c_lanes)) (fun _ _ _ _ _ h => h) c9 (PlOk.peek ar.plOk ar 0 6 rfl rfl ag [.int .i64 x47] (ai _)) (by kernel_rfl) (by rfl) (by kernel_rfl) fun fn da => ?_
      obtain ⟨x55, ex55, f⟩ := bnd f
      obtain ⟨dy, d4, em⟩ := idx_some ex55
      obtain ⟨bp, ca, e7, cg, ed, cp⟩ := au.get (by decide) em
      obtain rfl := ed
      have ah := ar.addPlc (b := bp) (o := ca + (x53 : Int).toNat * 1) (cs := [.int .i64 x55]) (fun j c hj => cp j _ (map_get hj)) rfl (by kernel_rfl) (by kernel_rfl)
      refine D_index 13 (x53) [.int .i64 x55] (fun _ _ _ _ _ h => h) rfl rfl (rfl) rfl (by decide) (by kernel_rfl) (by kernel_rfl) da (PlOk.peek ar.plOk ar 0 6 rfl rfl ag [.int .i64 x47] (ai _)) (by rfl) (by rfl) (by rfl) cg (by rfl) dy d4 (by kernel_rfl) fun ev (dc : Kn 58 [(g, 0), (q, s + (x_v11 : Int).toNat * 1), (z, aa + (x_v11 : Int).toNat * 1), (ac, 0 + (x36 : Int).toNat * 1), (ae, 0 + (x36 : Int).toNat * 1), (an, av + (x_v11 : Int).toNat * 1), (aw, 0 + (x45 : Int).toNat * 1), (a5, bj + (x_v11 : Int).toNat * 1), (bp, ca + (x53 : Int).toNat * 1)] ((tP 55 8 0) :: (tI 54 x53) :: (tS 50 m y.room.length p) :: (tI 48 x47) :: (tI 6 x_v11) :: (tS 5 a l.length d) :: (K25m2 a_lanes lanes c_lanes)) ev) => ?_
      refine D_run [14, 15] [15, 14, 13, 12, 11, 10, 9, 8, 7, 6, 5, 4, 3, 2, 1, 0] [57, 6, 5, 2, 1] ((tB 57 (decide (x47 > x55))) :: (tI 6 x_v11) :: (tS 5 a l.length d) :: (K25m2 a_lanes lanes c_lanes)) (fun _ _ _ _ _ h => h) dc (PlOk.peek ah.plOk ah 0 6 rfl rfl ag [.int .i64 x47] (ai _)) (by kernel_rfl) (by rfl) (by kernel_rfl) fun fp bd => ?_
      refine wpD_end (by kernel_rfl) (wC (decide (x47 > x55)) bd (fun a8 => ?_) (fun a8 => ?_))
      ·
       rw [a8, cond_true] at f
       refine wp_seq (wp_region_from (R_runk 0 1 [4] [(tB 4 false)] bd (PlOk.peek ah.plOk ah 0 6 rfl rfl ag [.int .i64 x47] (ai _)) (by kernel_rfl) fun fq dd => ?_))
       refine wf (wp_ret ?_)
       obtain rfl := Option.some.inj f
       obtain rfl := Option.some.inj H
       exact rt (.one (.c (.bool false))) dd ah rfl
      ·
       rw [a8, cond_false] at f
       refine wp_skip (wp_region_from (R_runk 0 3 [6, 5, 2, 1] ((tI 6 (IntKind.i64.wrap (x_v11 + 1))) :: (tS 5 a l.length d) :: (K25m2 a_lanes lanes c_lanes)) bd (PlOk.peek ah.plOk ah 0 6 rfl rfl ag [.int .i64 x47] (ai _)) (by kernel_rfl) fun fr de => ?_))
       refine wf ?_
       exact Exists.intro a3 ⟨Nat.lt_succ_self _, Exists.intro l ⟨(IntKind.i64.wrap (x_v11 + 1)), a, d, (u.take (0 + (x36 : Int).toNat * 1 + 0) ++ ([.int .i64 (IntKind.i64.wrap (x38 + 1))] : List Value) ++ u.drop (0 + (x36 : Int).toNat * 1 + 0 + 1)), _, _, rfl, ((de.keep [6, 5, 2, 1] (by rfl)).cut 1 (by kernel_rfl)), (ah.cutPl 1 (by kernel_rfl)), (Heap.le_trans ao az), bb, f⟩⟩
    ·
     rw [a9, cond_false] at f
     refine wp_exit ?_
     obtain rfl := Option.some.inj f
     exact Exists.intro x_v10 ⟨a, d, u, _, _, rfl, be.kp, aj, ao, af, rfl⟩
  ·
   rintro _ f2 ⟨a4, bo, bq, bn, bl, ax, rfl, df, bx, fc, fb, rfl⟩
   rw [Ex.bind_go] at H
   refine wp_seq (wp_region_from (Rk 0 1 [(tB 4 true)] df bx fun fs dg => ?_))
   refine wf (wp_ret ?_)
   obtain rfl := Option.some.inj H
   exact rt (.one (.c (.bool true))) dg bx rfl
abbrev K36c1 (i : Option Addr) (y : Yard) (l : Nat) (k : Option Addr) (m : Nat) : List SC := [.slice i y.room.length l, .slice k y.buses.length m, .int .i64 y.broken]
abbrev K36m2 (x_v10 : Int) (a_broken : Option Addr) (broken : List Int) (c_broken : Nat) : TM := [(tI 5 x_v10), (tP 2 0 0), (tS 1 a_broken broken.length c_broken)]
set_option maxRecDepth 100000 in
set_option maxHeartbeats 4000000 in
theorem ref_IsBroken_ok (n : Nat) {h : Heap} {w : World} (hh : Has h w) (y : Yard) {cs_y : List Value} (hx_y : rep h y cs_y) (broken : List Int) {a_broken : Option Addr} {c_broken : Nat} (hr_broken : RepS h a_broken c_broken broken) {r : Bool} (H : ref_IsBroken n y broken = some r) :
  Calls Try.prog 36 #[.agg cs_y.toArray, .slice a_broken broken.length c_broken] w (Ret (fun h v => v = .bool r) h w) := by
 obtain ⟨_, _, rfl, ⟨i, l, rfl, az⟩, ⟨_, _, rfl, ⟨k, m, rfl, a0⟩, rfl⟩⟩ := hx_y
 refine enter 43 [.agg (K36c1 i y l k m), .c (.slice a_broken broken.length c_broken)] Try.func36 rfl rfl rfl rfl fun t hk => ?_
 have hm := Mem.begin h w hh
 unfold ref_IsBroken at H
 refine wp_seq (wp_region_from (wl fun K hK => ?_))
 refine wb (.agg (K36c1 i y l k m)) hk hm fun d cd c5 (bd : Kn 43 [(d, 0)] [(tP 2 0 0), (tA 0 (K36c1 i y l k m)), (tS 1 a_broken broken.length c_broken)] cd) ai => hK _ _ ?_
 refine Rk 1 1 [(tP 2 0 0), (tS 1 a_broken broken.length c_broken)] bd ai fun cq bk => ?_
 refine wf (wp_seq (wp_seq (wp_region_from (Rk 0 1 [(tI 5 0), (tP 2 0 0), (tS 1 a_broken broken.length c_broken)] bk ai fun cr bl => ?_))))
 refine wf ?_
 obtain ⟨a1, ap, H⟩ := bnd H
 refine wp_mid' (fun a' w' => ∃ (a3 : Unit) (am : Array Value) (ab : Heap), a' = ⟨am, []⟩ ∧ Kn 43 [(d, 0)] [(tP 2 0 0), (tS 1 a_broken broken.length c_broken)] am ∧ Mem ⟨w, h, noX⟩ ab [(d, 0)] [⟨(K36c1 i y l k m), some 25⟩] [] w' ∧ Heap.le h ab ∧ a1 = .go a3) ?_ ?_
 ·
  refine wp_block ?_
  refine wp_loop_n (fun ca a' w' => ∃ (x_v10 : Int) (an : Array Value) (ac : Heap), a' = ⟨an, []⟩ ∧ Kn 43 [(d, 0)] (K36m2 x_v10 a_broken broken c_broken) an ∧ Mem ⟨w, h, noX⟩ ac [(d, 0)] [⟨(K36c1 i y l k m), some 25⟩] [] w' ∧ Heap.le h ac ∧ ref_IsBroken_l1 ca y broken x_v10 = some a1) n ?_ ?_
  ·
   exact Exists.intro 0 ⟨_, _, rfl, bl.kp, ai, (Heap.le_refl _), ap⟩
  ·
   rintro z _ c3 ⟨x_v10, an, ac, rfl, bm, p, q, a⟩
   clear ap
   obtain _ | z := z
   ·
    rw [ref_IsBroken_l1] at a; cases a
   rw [ref_IsBroken_l1] at a
   replace az := az.mono q
   replace a0 := a0.mono q
   replace hr_broken := hr_broken.mono q
   refine wp_seq (wp_seq (wp_region_from (Rk 0 4 ((tB 9 (decide (x_v10 < ((broken.length : Nat) : Int)))) :: (K36m2 x_v10 a_broken broken c_broken)) bm p fun ct ag => ?_)))
   refine wf (wC (decide (x_v10 < ((broken.length : Nat) : Int))) ag (fun ae => ?_) (fun ae => ?_))
   ·
    rw [ae, cond_true] at a
    refine wp_skip (wp_seq (wp_block (wp_seq (wp_region_G (by kernel_rfl) ?_))))
    replace p := p.drew
    refine wpG_of_D [] [(d, 0)] [⟨(K36c1 i y l k m), some 25⟩] ?_
    refine Dr [0, 1] [1, 0] ((tI 13 x_v10) :: (tS 12 a_broken broken.length c_broken) :: (K36m2 x_v10 a_broken broken c_broken)) ag p fun cu bn => ?_
    obtain ⟨x14, ex14, a⟩ := bnd a
    obtain ⟨bx, b1, b7⟩ := idx_some ex14
    obtain ⟨f, g, cg, a7, b4, ba⟩ := hr_broken.get (by decide) b7
    obtain rfl := b4
    have aj := p.addPlc (b := f) (o := g + (x_v10 : Int).toNat * 1) (cs := [.int .i64 x14]) (fun j c hj => ba j _ (map_get hj)) rfl (by kernel_rfl) (by kernel_rfl)
    refine D_index 2 (x_v10) [.int .i64 x14] (fun _ _ _ _ _ h => h) rfl rfl (rfl) rfl (by decide) (by kernel_rfl) (by kernel_rfl) bn p.plOk (by rfl) (by rfl) (by rfl) a7 (by rfl) bx b1 (by kernel_rfl) fun cb (bo : Kn 43 [(d, 0), (f, g + (x_v10 : Int).toNat * 1)] ((tP 14 1 0) :: (tI 13 x_v10) :: (tS 12 a_broken broken.length c_broken) :: (K36m2 x_v10 a_broken broken c_broken)) cb) => ?_
    refine Dr [3, 4, 5, 6, 7] (dn 7) ((tI 19 (IntKind.i64.wrap (((y.buses.length : Nat) : Int) - 1))) :: (tI 15 x14) :: (K36m2 x_v10 a_broken broken c_broken)) bo aj fun cv bp => ?_
    obtain ⟨x20, ex20, a⟩ := bnd a
    refine Dl 8 fun K hK => ?_
    refine wc [.c (.int .i64 x14), .c (.int .i64 0), .c (.int .i64 (IntKind.i64.wrap (((y.buses.length : Nat) : Int) - 1)))] bp aj (ref_In_ok z aj.has x14 0 (IntKind.i64.wrap (((y.buses.length : Nat) : Int) - 1)) ex20) fun c1 cj c4 a6 ah e => ?_
    replace hr_broken := hr_broken.mono ah
    obtain rfl := a6
    refine ⟨.one (.c (.bool x20)), rfl, fun cc (bq : Kn 43 [(d, 0), (f, g + (x_v10 : Int).toNat * 1)] ((tB 20 x20) :: (tI 19 (IntKind.i64.wrap (((y.buses.length : Nat) : Int) - 1))) :: (tI 15 x14) :: (K36m2 x_v10 a_broken broken c_broken)) cc) => hK _ _ e.plOk ?_⟩
    refine Dr [9, 10] (dn 10) ((tB 22 (!x20)) :: (K36m2 x_v10 a_broken broken c_broken)) bq e fun a4 ar => ?_
    rcases Bool.eq_false_or_eq_true ((!x20)) with s | s
    ·
     rw [s, cond_true] at a
     have br : Kn 43 [(d, 0), (f, g + (x_v10 : Int).toNat * 1)] ((tB 22 true) :: (K36m2 x_v10 a_broken broken c_broken)) a4 := (ar.setB 22 true (by rfl) s).kp
     refine Dr [11, 12, 13, 14, 15, 16, 17, 18, 19, 20, 21, 22, 23, 24, 25] (dn 25) ((tB 37 true) :: (K36m2 x_v10 a_broken broken c_broken)) br e fun cw au => ?_
     refine wpD_end (by kernel_rfl) (wC true au (fun hb => ?_) (fun hb => ?_))
     rotate_left
     ·
      cases hb
     refine wp_seq (wp_region_from (Rk 0 1 [(tB 4 false)] au e fun cx bs => ?_))
     refine wf (wp_ret ?_)
     obtain rfl := Option.some.inj a
     obtain rfl := Option.some.inj H
     exact rt (.one (.c (.bool false))) bs e rfl
    ·
     rw [s, cond_false] at a
     have bt : Kn 43 [(d, 0), (f, g + (x_v10 : Int).toNat * 1)] ((tB 22 false) :: (K36m2 x_v10 a_broken broken c_broken)) a4 := (ar.setB 22 false (by rfl) s).kp
     refine Dr [11, 12, 13] (dn 13) ((tB 25 (decide (x_v10 > 0))) :: (tB 22 false) :: (K36m2 x_v10 a_broken broken c_broken)) bt e fun a5 av => ?_
     rcases Bool.eq_false_or_eq_true (decide (x_v10 > 0)) with u | u
     ·
      rw [u, cond_true] at a
      have bu : Kn 43 [(d, 0), (f, g + (x_v10 : Int).toNat * 1)] ((tB 25 true) :: (tB 22 false) :: (K36m2 x_v10 a_broken broken c_broken)) a5 := (av.setB 25 true (by rfl) u).kp
      refine Dr [14, 15] (dn 15) ((tI 27 x_v10) :: (tS 26 a_broken broken.length c_broken) :: (tB 25 true) :: (tB 22 false) :: (K36m2 x_v10 a_broken broken c_broken)) bu e fun cy aw => ?_
      obtain ⟨x28, ex28, a⟩ := bnd a
      obtain ⟨bz, b2, b8⟩ := idx_some ex28
      obtain ⟨aa, al, ch, a8, b5, bb⟩ := hr_broken.get (by decide) b8
      obtain rfl := b5
      have ak := e.addPlc (b := aa) (o := al + (x_v10 : Int).toNat * 1) (cs := [.int .i64 x28]) (fun j c hj => bb j _ (map_get hj)) rfl (by kernel_rfl) (by kernel_rfl)
      refine D_index 16 (x_v10) [.int .i64 x28] (fun _ _ _ _ _ h => h) rfl rfl (wantedS_sound aw (by kernel_rfl)) rfl (by decide) (by kernel_rfl) (by kernel_rfl) aw e.plOk (by rfl) (by rfl) (by rfl) a8 (by rfl) bz b2 (by kernel_rfl) fun ce (bv : Kn 43 [(d, 0), (f, g + (x_v10 : Int).toNat * 1), (aa, al + (x_v10 : Int).toNat * 1)] ((tP 28 2 0) :: (tI 27 x_v10) :: (tS 26 a_broken broken.length c_broken) :: (tB 25 true) :: (tB 22 false) :: (K36m2 x_v10 a_broken broken c_broken)) ce) => ?_
      refine Dr [17, 18, 19, 20] (dn 20) ((tI 32 (IntKind.i64.wrap (x_v10 - 1))) :: (tS 30 a_broken broken.length c_broken) :: (tI 29 x28) :: (tB 25 true) :: (tB 22 false) :: (K36m2 x_v10 a_broken broken c_broken)) bv ak fun cz ax => ?_
      obtain ⟨x33, ex33, a⟩ := bnd a
      obtain ⟨b0, b3, b9⟩ := idx_some ex33
      obtain ⟨ao, a2, ci, a9, b6, bc⟩ := hr_broken.get (by decide) b9
      obtain rfl := b6
      have x := ak.addPlc (b := ao) (o := a2 + (IntKind.i64.wrap (x_v10 - 1) : Int).toNat * 1) (cs := [.int .i64 x33]) (fun j c hj => bc j _ (map_get hj)) rfl (by kernel_rfl) (by kernel_rfl)
      refine D_index 21 (IntKind.i64.wrap (x_v10 - 1)) [.int .i64 x33] (fun _ _ _ _ _ h => h) rfl rfl (wantedS_sound ax (by kernel_rfl)) rfl (by decide) (by kernel_rfl) (by kernel_rfl) ax ak.plOk (by rfl) (by rfl) (by rfl) a9 (by rfl) b0 b3 (by kernel_rfl) fun cf (bw : Kn 43 [(d, 0), (f, g + (x_v10 : Int).toNat * 1), (aa, al + (x_v10 : Int).toNat * 1), (ao, a2 + (IntKind.i64.wrap (x_v10 - 1) : Int).toNat * 1)] ((tP 33 3 0) :: (tI 32 (IntKind.i64.wrap (x_v10 - 1))) :: (tS 30 a_broken broken.length c_broken) :: (tI 29 x28) :: (tB 25 true) :: (tB 22 false) :: (K36m2 x_v10 a_broken broken c_broken)) cf) => ?_
      refine Dr [22, 23, 24, 25] (dn 25) ((tB 37 (decide (x28 ≤ x33))) :: (K36m2 x_v10 a_broken broken c_broken)) bw x fun c0 af => ?_
      refine wpD_end (by kernel_rfl) (wC (decide (x28 ≤ x33)) af (fun ad => ?_) (fun ad => ?_))
      ·
       rw [ad, cond_true] at a
       refine wp_seq (wp_region_from (Rk 0 1 [(tB 4 false)] af x fun cl be => ?_))
       refine wf (wp_ret ?_)
       obtain rfl := Option.some.inj a
       obtain rfl := Option.some.inj H
       exact rt (.one (.c (.bool false))) be x rfl
      ·
       rw [ad, cond_false] at a
       refine wp_skip (wp_region_from (Rk 0 3 [(tI 5 (IntKind.i64.wrap (x_v10 + 1))), (tP 2 0 0), (tS 1 a_broken broken.length c_broken)] af x fun cm bf => ?_))
       refine wf ?_
       exact Exists.intro z ⟨Nat.lt_succ_self _, Exists.intro (IntKind.i64.wrap (x_v10 + 1)) ⟨_, _, rfl, ((bf.keep [5, 2, 1] (by rfl)).cut 1 (by kernel_rfl)), (x.cutPl 1 (by kernel_rfl)), (Heap.le_trans q ah), a⟩⟩
     ·
      rw [u, cond_false] at a
      have bg : Kn 43 [(d, 0), (f, g + (x_v10 : Int).toNat * 1)] ((tB 25 false) :: (tB 22 false) :: (K36m2 x_v10 a_broken broken c_broken)) a5 := (av.setB 25 false (by rfl) u).kp
      refine Dr [14, 15, 16, 17, 18, 19, 20, 21, 22, 23, 24, 25] (dn 25) ((tB 37 false) :: (K36m2 x_v10 a_broken broken c_broken)) bg e fun cn aq => ?_
      refine wpD_end (by kernel_rfl) (wC false aq (fun hb => ?_) (fun hb => ?_))
      ·
       cases hb
      refine wp_skip (wp_region_from (Rk 0 3 [(tI 5 (IntKind.i64.wrap (x_v10 + 1))), (tP 2 0 0), (tS 1 a_broken broken.length c_broken)] aq e fun co bh => ?_))
      refine wf ?_
      exact Exists.intro z ⟨Nat.lt_succ_self _, Exists.intro (IntKind.i64.wrap (x_v10 + 1)) ⟨_, _, rfl, ((bh.keep [5, 2, 1] (by rfl)).cut 1 (by kernel_rfl)), (e.cutPl 1 (by kernel_rfl)), (Heap.le_trans q ah), a⟩⟩
   ·
    rw [ae, cond_false] at a
    refine wp_exit ?_
    obtain rfl := Option.some.inj a
    exact Exists.intro () ⟨_, _, rfl, ag.kp, p, q, rfl⟩
 ·
  rintro _ c2 ⟨a3, am, ab, rfl, bi, ay, ck, rfl⟩
  rw [Ex.bind_go] at H
  refine wp_seq (wp_region_from (Rk 0 6 [(tB 4 (decide (((broken.length : Nat) : Int) ≤ y.broken)))] bi ay fun cp bj => ?_))
  refine wf (wp_ret ?_)
  obtain rfl := Option.some.inj H
  exact rt (.one (.c (.bool (decide (((broken.length : Nat) : Int) ≤ y.broken))))) bj ay rfl
abbrev K31c1 (s : Option Addr) (y : Yard) (u : Nat) (m : Option Addr) (p : Nat) : List SC := [.slice s y.room.length u, .slice m y.buses.length p, .int .i64 y.broken]
abbrev K31m2 (x_v21 : Int) (d : Option Addr) (x_v20 : List Int) (f : Nat) (x_v11 : Int) (a_broken : Option Addr) (broken : List Int) (c_broken : Nat) : TM := [(tI 7 x_v21), (tS 5 d x_v20.length f), (tI 6 x_v11), (tP 2 0 0), (tS 1 a_broken broken.length c_broken)]
abbrev K31m3 (a_broken : Option Addr) (broken : List Int) (c_broken : Nat) : TM := [(tP 2 0 0), (tS 1 a_broken broken.length c_broken)]
abbrev K31m4 (x_v21 : Int) (d : Option Addr) (x_v20 : List Int) (f : Nat) (x_v11 : Int) (a_broken : Option Addr) (broken : List Int) (c_broken : Nat) : TM := (tI 55 (IntKind.i64.wrap (x_v21 - 1))) :: (tS 53 d x_v20.length f) :: (tI 52 x_v21) :: (tS 51 d x_v20.length f) :: (K31m2 x_v21 d x_v20 f x_v11 a_broken broken c_broken)
set_option maxRecDepth 100000 in
set_option maxHeartbeats 4000000 in
theorem ref_Turns_ok (n : Nat) {h : Heap} {w : World} (hh : Has h w) (y : Yard) {cs_y : List Value} (hx_y : rep h y cs_y) (broken : List Int) {a_broken : Option Addr} {c_broken : Nat} (hr_broken : RepS h a_broken c_broken broken) {r : List Int} (H : ref_Turns n y broken = some r) :
  Calls Try.prog 31 #[.agg cs_y.toArray, .slice a_broken broken.length c_broken] w (Ret (fun h v => ∃ a c, v = .slice a r.length c ∧ RepS h a c r) h w) := by
 obtain ⟨_, _, rfl, ⟨s, u, rfl, a2⟩, ⟨_, _, rfl, ⟨m, p, rfl, am⟩, rfl⟩⟩ := hx_y
 refine enter 68 [.agg (K31c1 s y u m p), .c (.slice a_broken broken.length c_broken)] Try.func31 rfl rfl rfl rfl fun t hk => ?_
 have hm := Mem.begin h w hh
 unfold ref_Turns at H
 refine wp_seq (wp_region_from (wl fun K hK => ?_))
 refine wb (.agg (K31c1 s y u m p)) hk hm fun g gm gq (d9 : Kn 68 [(g, 0)] [(tP 2 0 0), (tA 0 (K31c1 s y u m p)), (tS 1 a_broken broken.length c_broken)] gm) br => hK _ _ ?_
 refine Rk 1 1 (K31m3 a_broken broken c_broken) d9 br fun g8 ed => ?_
 refine wf (wp_seq (wp_region_from (Rk 0 1 ((tS 5 none 0 0) :: (K31m3 a_broken broken c_broken)) ed br fun ha ef => ?_)))
 refine wf (wp_seq (wp_seq (wp_region_from (Rk 0 1 ((tI 6 0) :: (tS 5 none 0 0) :: (K31m3 a_broken broken c_broken)) ef br fun hd ei => ?_))))
 refine wf ?_
 have fk : Mem ⟨w, h, noX⟩ h [(g, 0)] [⟨(K31c1 s y u m p), some 25⟩] [⟨none, 0, 0, 3, 1, [], 0⟩] gq := br.nilRow 3 1
 have d1 : Cells h ([] : List Int) [] := Cells.nil
 obtain ⟨an, co, H⟩ := bnd H
 refine wp_mid' (fun a' w' => ∃ (ao : Option Addr) (aq : Nat) (bh : List Value) (cj : Array Value) (bl : Heap), a' = ⟨cj, []⟩ ∧ Kn 68 [(g, 0)] [(tS 5 ao an.length aq)] cj ∧ Mem ⟨w, h, noX⟩ bl [(g, 0)] [⟨(K31c1 s y u m p), some 25⟩] [⟨ao, an.length, aq, 3, 1, bh, 0⟩] w' ∧ Heap.le h bl ∧ Cells bl an bh) ?_ ?_
 ·
  refine wp_block ?_
  refine wp_loop_n (fun gb a' w' => ∃ (x_v10 : List Int) (x_v11 : Int) (aa : Option Addr) (ab : Nat) (aw : List Value) (ck : Array Value) (bm : Heap), a' = ⟨ck, []⟩ ∧ Kn 68 [(g, 0)] ((tI 6 x_v11) :: (tS 5 aa x_v10.length ab) :: (K31m3 a_broken broken c_broken)) ck ∧ Mem ⟨w, h, noX⟩ bm [(g, 0)] [⟨(K31c1 s y u m p), some 25⟩] [⟨aa, x_v10.length, ab, 3, 1, aw, 0⟩] w' ∧ Heap.le h bm ∧ Cells bm x_v10 aw ∧ ref_Turns_l1 gb y broken x_v10 x_v11 = some an) n ?_ ?_
  ·
   exact Exists.intro ([] : List Int) ⟨0, none, 0, ([]), _, _, rfl, ei.kp, fk, (Heap.le_refl _), d1, co⟩
  ·
   rintro a3 _ h1 ⟨x_v10, x_v11, aa, ab, aw, ck, bm, rfl, e4, bg, ay, bd, x⟩
   clear co
   obtain _ | a3 := a3
   ·
    rw [ref_Turns_l1] at x; cases x
   rw [ref_Turns_l1] at x
   replace a2 := a2.mono ay
   replace am := am.mono ay
   replace hr_broken := hr_broken.mono ay
   refine wp_seq (wp_seq (wp_region_from (Rk 0 5 ((tB 12 (decide (x_v11 < ((y.buses.length : Nat) : Int)))) :: (tI 6 x_v11) :: (tS 5 aa x_v10.length ab) :: (K31m3 a_broken broken c_broken)) e4 bg fun hr b6 => ?_)))
   refine wf (wC (decide (x_v11 < ((y.buses.length : Nat) : Int))) b6 (fun b1 => ?_) (fun b1 => ?_))
   ·
    rw [b1, cond_true] at x
    refine wp_skip (wp_seq (wp_block (wp_seq (wp_seq (wp_region_from (Rk 0 2 ((tI 16 x_v11) :: (tS 15 a_broken broken.length c_broken) :: (tI 6 x_v11) :: (tS 5 aa x_v10.length ab) :: (K31m3 a_broken broken c_broken)) b6 bg fun hs e5 => ?_))))))
    obtain ⟨x17, ex17, x⟩ := bnd x
    refine wl fun K hK => ?_
    refine wc [.c (.slice a_broken broken.length c_broken), .c (.int .i64 x_v11)] e5 bg (ref_has_ok a3 bg.has broken hr_broken x_v11 ex17) fun hx a9 h2 dt az bt => ?_
    replace a2 := a2.mono az
    replace am := am.mono az
    replace hr_broken := hr_broken.mono az
    replace bd := bd.mono az
    obtain rfl := dt
    refine ⟨.one (.c (.bool x17)), rfl, fun dp (e6 : Kn 68 [(g, 0)] ((tB 17 x17) :: (tI 16 x_v11) :: (tS 15 a_broken broken.length c_broken) :: (tI 6 x_v11) :: (tS 5 aa x_v10.length ab) :: (K31m3 a_broken broken c_broken)) dp) => hK _ _ ?_⟩
    have b7 : Kn 68 [(g, 0)] ((tB 17 x17) :: (tI 6 x_v11) :: (tS 5 aa x_v10.length ab) :: (K31m3 a_broken broken c_broken)) dp := e6.kp
    refine wf (wC (x17) b7 (fun b2 => ?_) (fun b2 => ?_))
    ·
     rw [cond_t b2] at x
     refine wp_exit (wp_region_from (Rk 0 3 ((tI 6 (IntKind.i64.wrap (x_v11 + 1))) :: (tS 5 aa x_v10.length ab) :: (K31m3 a_broken broken c_broken)) b7 bt fun ht e7 => ?_))
     refine wf ?_
     exact Exists.intro a3 ⟨Nat.lt_succ_self _, Exists.intro x_v10 ⟨(IntKind.i64.wrap (x_v11 + 1)), aa, ab, aw, _, _, rfl, e7.kp, bt, (Heap.le_trans ay az), bd, x⟩⟩
    ·
     rw [cond_f b2] at x
     refine wp_skip (wp_seq (wp_region_from (Rk 0 2 ((tI 19 x_v11) :: (tS 18 aa x_v10.length ab) :: (tI 6 x_v11) :: (K31m3 a_broken broken c_broken)) b7 bt fun hu e8 => ?_)))
     refine wl fun K hK => ?_
     refine wS 3 1 [.int .i64 x_v11] e8 bt fun ap gk h3 (e9 : Kn 68 [(g, 0)] ((tS 20 ap 1 1) :: (tI 19 x_v11) :: (tS 18 aa x_v10.length ab) :: (tI 6 x_v11) :: (K31m3 a_broken broken c_broken)) gk) c2 => ?_
     have be : Cells a9 ([x_v11] : List Int) ([.int .i64 x_v11] : List Value) := ⟨_, _, rfl, (rep_int : rep a9 (x_v11 : Int) _), rfl⟩
     refine hK _ _ ?_
     obtain ⟨x21, ex21, x⟩ := bnd x
     obtain ⟨cf, fh⟩ := app_some ex21
     refine wl fun K hK => ?_
     refine wp_append 0 8 1 _ (x21.length) _ ([.int .i64 x_v11] : List Value) e9 c2 rfl rfl (by decide) rfl (by rfl) (by kernel_rfl) (by rfl) (by rfl) (Cells.len be) (c2.rowCell (i := 1) rfl) be.one (by rw [cf]; simp <;> omega) (by rw [cf]; exact fh) (by decide) fun bi bk ds gl h4 d8 (fa : Kn 68 [(g, 0)] ((tS 21 bi x21.length bk) :: (tS 20 ap 1 1) :: (tI 19 x_v11) :: (tS 18 aa x_v10.length ab) :: (tI 6 x_v11) :: (K31m3 a_broken broken c_broken)) gl) ce => ?_
     have d6 : Cells a9 x21 (aw ++ ([.int .i64 x_v11] : List Value)) := by rw [cf]; exact Cells.append bd be
     obtain rfl : ds = 0 := Nat.le_zero.1 d8
     refine hK _ _ ?_
     refine Rk 4 1 ((tS 5 bi x21.length bk) :: (tI 6 x_v11) :: (K31m3 a_broken broken c_broken)) fa ce fun hv fb => ?_
     refine wf (wp_seq (wp_region_from (Rk 0 4 ((tI 7 (IntKind.i64.wrap (((x21.length : Nat) : Int) - 1))) :: (tS 5 bi x21.length bk) :: (tI 6 x_v11) :: (K31m3 a_broken broken c_broken)) fb ce fun hw fc => ?_)))
     refine wf ?_
     obtain ⟨a4, cp, x⟩ := bnd x
     refine wp_mid' (fun a' w' => ∃ (a5 : Option Addr) (a8 : Nat) (bv : List Value) (cl : Array Value) (bn : Heap), a' = ⟨cl, []⟩ ∧ Kn 68 [(g, 0)] ((tS 5 a5 a4.length a8) :: (tI 6 x_v11) :: (K31m3 a_broken broken c_broken)) cl ∧ Mem ⟨w, h, noX⟩ bn [(g, 0)] [⟨(K31c1 s y u m p), some 25⟩] [⟨a5, a4.length, a8, 3, 1, bv, 0⟩, ⟨ap, 1, 1, 3, 1, ([.int .i64 x_v11] : List Value), 0⟩] w' ∧ Heap.le a9 bn ∧ Cells bn a4 bv) ?_ ?_
     ·
      refine wp_block ?_
      refine wp_loop_n (fun gc a' w' => ∃ (x_v20 : List Int) (x_v21 : Int) (d : Option Addr) (f : Nat) (l : List Value) (cm : Array Value) (ba : Heap), a' = ⟨cm, []⟩ ∧ Kn 68 [(g, 0)] (K31m2 x_v21 d x_v20 f x_v11 a_broken broken c_broken) cm ∧ Mem ⟨w, h, noX⟩ ba [(g, 0)] [⟨(K31c1 s y u m p), some 25⟩] [⟨d, x_v20.length, f, 3, 1, l, 0⟩, ⟨ap, 1, 1, 3, 1, ([.int .i64 x_v11] : List Value), 0⟩] w' ∧ Heap.le a9 ba ∧ Cells ba x_v20 l ∧ ref_Turns_l2 gc y x_v20 x_v21 = some a4) a3 ?_ ?_
      ·
       exact Exists.intro x21 ⟨(IntKind.i64.wrap (((x21.length : Nat) : Int) - 1)), bi, bk, (aw ++ ([.int .i64 x_v11] : List Value)), _, _, rfl, fc.kp, ce, (Heap.le_refl _), d6, cp⟩
      ·
       rintro cg _ hy ⟨x_v20, x_v21, d, f, l, cm, ba, rfl, ea, ai, ax, z, q⟩
       clear cp
       obtain _ | cg := cg
       ·
        rw [ref_Turns_l2] at q; cases q
       rw [ref_Turns_l2] at q
       replace a2 := a2.mono ax
       replace am := am.mono ax
       replace hr_broken := hr_broken.mono ax
       replace be := be.mono ax
       refine wp_seq (wp_seq ?_)
       obtain ⟨dj, ac, q⟩ := bnd q
       refine wp_mid' (fun a' w' => ∃ (ch : Array Value) (ah : Heap), a' = ⟨ch, []⟩ ∧ Kn 68 [(g, 0)] [(tI 7 x_v21), (tS 5 d x_v20.length f), (tI 6 x_v11), (tP 2 0 0), (tS 1 a_broken broken.length c_broken), (tB 48 dj)] ch ∧ Mem ⟨w, h, noX⟩ ah [(g, 0)] [⟨(K31c1 s y u m p), some 25⟩] [⟨d, x_v20.length, f, 3, 1, l, 0⟩, ⟨ap, 1, 1, 3, 1, ([.int .i64 x_v11] : List Value), 0⟩] w' ∧ Heap.le ba ah) ?_ ?_
       ·
        refine wp_region_G (by kernel_rfl) ?_
        replace ai := ai.drew
        refine wpG_of_D [] [(g, 0)] [⟨(K31c1 s y u m p), some 25⟩] ?_
        refine Dr [0, 1, 2] [2, 1, 0] ((tB 27 (decide (x_v21 > 0))) :: (K31m2 x_v21 d x_v20 f x_v11 a_broken broken c_broken)) ea ai fun dl cv => ?_
        rcases Bool.eq_false_or_eq_true (decide (x_v21 > 0)) with bc | bc
        ·
         rw [bc, cond_true] at ac
         have eb : Kn 68 [(g, 0)] ((tB 27 true) :: (K31m2 x_v21 d x_v20 f x_v11 a_broken broken c_broken)) dl := (cv.setB 27 true (by rfl) bc).kp
         refine Dr [3, 4, 5, 6] (dn 6) ((tI 31 x_v21) :: (tS 30 d x_v20.length f) :: (tS 29 m y.buses.length p) :: (tB 27 true) :: (K31m2 x_v21 d x_v20 f x_v11 a_broken broken c_broken)) eb ai fun g7 cw => ?_
         obtain ⟨x32, ex32, ac⟩ := bnd ac
         obtain ⟨c5, db, f3⟩ := idx_some ex32
         have fd := lt_of_idx c5 db
         obtain ⟨gr, fv, dw⟩ := cells_get (sz := 1) rfl z f3
         obtain rfl := fv
         obtain ⟨a6, ak⟩ := row_addr ai (i := 0) rfl (b0 := 0 + (x_v21 : Int).toNat * 1) (Nat.lt_of_lt_of_le (Nat.lt_add_of_pos_right (by decide)) (cells_fit (sz := 1) rfl z fd))
         have bf := ai.addPlc (b := a6) (o := 0 + (x_v21 : Int).toNat * 1) (cs := []) (fun j c hj => by simp at hj) rfl (by kernel_rfl) (by kernel_rfl)
         have ar : ∀ (e : Env) k c, ([.int .i64 x32] : List SC)[k]? = some c → (l)[0 + (x_v21 : Int).toNat * 1 + k]? = some (c.den e) := fun e k c hk => dw k _ (map_get hk)
         refine D_index 7 (x_v21) [.int .i64 x32] (fun _ _ _ _ _ h => h) rfl rfl (wantedS_sound cw (by kernel_rfl)) rfl (by decide) (by kernel_rfl) (by kernel_rfl) cw ai.plOk (by rfl) (by rfl) (by rfl) ak (by rfl) c5 db (by kernel_rfl) fun gd (ec : Kn 68 [(g, 0), (a6, 0 + (x_v21 : Int).toNat * 1)] ((tP 32 1 0) :: (tI 31 x_v21) :: (tS 30 d x_v20.length f) :: (tS 29 m y.buses.length p) :: (tB 27 true) :: (K31m2 x_v21 d x_v20 f x_v11 a_broken broken c_broken)) gd) => ?_
         refine D_run [8] [8, 7, 6, 5, 4, 3, 2, 1, 0] [33, 29, 27, 7, 5, 6, 2, 1] ((tI 33 x32) :: (tS 29 m y.buses.length p) :: (tB 27 true) :: (K31m2 x_v21 d x_v20 f x_v11 a_broken broken c_broken)) (fun _ _ _ _ _ h => h) ec (PlOk.peek bf.plOk bf 0 1 rfl rfl ak [.int .i64 x32] (ar _)) (by kernel_rfl) (by rfl) (by kernel_rfl) fun g9 cx => ?_
         obtain ⟨x34, ex34, ac⟩ := bnd ac
         obtain ⟨fp, fr, f4⟩ := idx_some ex34
         obtain ⟨bj, bu, gs, du, fw, dx⟩ := am.get (by decide) f4
         obtain ⟨_, _, rfl, rfl, ⟨_, _, rfl, rfl, rfl⟩⟩ := fw
         have a0 := bf.addPlc (b := bj) (o := bu + (x32 : Int).toNat * 3) (cs := [.int .i64 x34.lo, .int .i64 x34.hi, .int .i64 x34.turn]) (fun j c hj => dx j _ (map_get hj)) rfl (by kernel_rfl) (by kernel_rfl)
         refine D_index 9 (x32) [.int .i64 x34.lo, .int .i64 x34.hi, .int .i64 x34.turn] (fun _ _ _ _ _ h => h) rfl rfl (wantedS_sound cx (by kernel_rfl)) rfl (by decide) (by kernel_rfl) (by kernel_rfl) cx (PlOk.peek bf.plOk bf 0 1 rfl rfl ak [.int .i64 x32] (ar _)) (by rfl) (by rfl) (by rfl) du (by rfl) fp fr (by kernel_rfl) fun gf (ee : Kn 68 [(g, 0), (a6, 0 + (x_v21 : Int).toNat * 1), (bj, bu + (x32 : Int).toNat * 3)] ((tP 34 2 0) :: (tI 33 x32) :: (tS 29 m y.buses.length p) :: (tB 27 true) :: (K31m2 x_v21 d x_v20 f x_v11 a_broken broken c_broken)) gf) => ?_
         refine D_run [10, 11, 12, 13, 14, 15, 16] [16, 15, 14, 13, 12, 11, 10, 9, 8, 7, 6, 5, 4, 3, 2, 1, 0] [41, 39, 38, 36, 27, 7, 5, 6, 2, 1] ((tI 41 (IntKind.i64.wrap (x_v21 - 1))) :: (tS 39 d x_v20.length f) :: (tS 38 m y.buses.length p) :: (tI 36 x34.turn) :: (tB 27 true) :: (K31m2 x_v21 d x_v20 f x_v11 a_broken broken c_broken)) (fun _ _ _ _ _ h => h) ee (PlOk.peek a0.plOk a0 0 1 rfl rfl ak [.int .i64 x32] (ar _)) (by kernel_rfl) (by rfl) (by kernel_rfl) fun hb cy => ?_
         obtain ⟨x42, ex42, ac⟩ := bnd ac
         obtain ⟨c6, dc, f5⟩ := idx_some ex42
         have fe := lt_of_idx c6 dc
         obtain ⟨gu, fx, dy⟩ := cells_get (sz := 1) rfl z f5
         obtain rfl := fx
         obtain ⟨bw, bo⟩ := row_addr a0 (i := 0) rfl (b0 := 0 + (IntKind.i64.wrap (x_v21 - 1) : Int).toNat * 1) (Nat.lt_of_lt_of_le (Nat.lt_add_of_pos_right (by decide)) (cells_fit (sz := 1) rfl z fe))
         have au := a0.addPlc (b := bw) (o := 0 + (IntKind.i64.wrap (x_v21 - 1) : Int).toNat * 1) (cs := []) (fun j c hj => by simp at hj) rfl (by kernel_rfl) (by kernel_rfl)
         have b3 : ∀ (e : Env) k c, ([.int .i64 x42] : List SC)[k]? = some c → (l)[0 + (IntKind.i64.wrap (x_v21 - 1) : Int).toNat * 1 + k]? = some (c.den e) := fun e k c hk => dy k _ (map_get hk)
         refine D_index 17 (IntKind.i64.wrap (x_v21 - 1)) [.int .i64 x42] (fun _ _ _ _ _ h => h) rfl rfl (wantedS_sound cy (by kernel_rfl)) rfl (by decide) (by kernel_rfl) (by kernel_rfl) cy (PlOk.peek a0.plOk a0 0 1 rfl rfl ak [.int .i64 x32] (ar _)) (by rfl) (by rfl) (by rfl) bo (by rfl) c6 dc (by kernel_rfl) fun gg (eg : Kn 68 [(g, 0), (a6, 0 + (x_v21 : Int).toNat * 1), (bj, bu + (x32 : Int).toNat * 3), (bw, 0 + (IntKind.i64.wrap (x_v21 - 1) : Int).toNat * 1)] ((tP 42 3 0) :: (tI 41 (IntKind.i64.wrap (x_v21 - 1))) :: (tS 39 d x_v20.length f) :: (tS 38 m y.buses.length p) :: (tI 36 x34.turn) :: (tB 27 true) :: (K31m2 x_v21 d x_v20 f x_v11 a_broken broken c_broken)) gg) => ?_
         refine D_run [18] [18, 17, 16, 15, 14, 13, 12, 11, 10, 9, 8, 7, 6, 5, 4, 3, 2, 1, 0] [43, 38, 36, 27, 7, 5, 6, 2, 1] ((tI 43 x42) :: (tS 38 m y.buses.length p) :: (tI 36 x34.turn) :: (tB 27 true) :: (K31m2 x_v21 d x_v20 f x_v11 a_broken broken c_broken)) (fun _ _ _ _ _ h => h) eg (PlOk.peek (PlOk.peek au.plOk au 0 1 rfl rfl ak [.int .i64 x32] (ar _)) au 0 3 rfl rfl bo [.int .i64 x42] (b3 _)) (by kernel_rfl) (by rfl) (by kernel_rfl) fun hc cz => ?_
         obtain ⟨x44, ex44, ac⟩ := bnd ac
         obtain ⟨fq, fs, f6⟩ := idx_some ex44
         obtain ⟨cn, dk, gv, dv, fy, dz⟩ := am.get (by decide) f6
         obtain ⟨_, _, rfl, rfl, ⟨_, _, rfl, rfl, rfl⟩⟩ := fy
         have bs := au.addPlc (b := cn) (o := dk + (x42 : Int).toNat * 3) (cs := [.int .i64 x44.lo, .int .i64 x44.hi, .int .i64 x44.turn]) (fun j c hj => dz j _ (map_get hj)) rfl (by kernel_rfl) (by kernel_rfl)
         refine D_index 19 (x42) [.int .i64 x44.lo, .int .i64 x44.hi, .int .i64 x44.turn] (fun _ _ _ _ _ h => h) rfl rfl (wantedS_sound cz (by kernel_rfl)) rfl (by decide) (by kernel_rfl) (by kernel_rfl) cz (PlOk.peek (PlOk.peek au.plOk au 0 1 rfl rfl ak [.int .i64 x32] (ar _)) au 0 3 rfl rfl bo [.int .i64 x42] (b3 _)) (by rfl) (by rfl) (by rfl) dv (by rfl) fq fs (by kernel_rfl) fun gh (eh : Kn 68 [(g, 0), (a6, 0 + (x_v21 : Int).toNat * 1), (bj, bu + (x32 : Int).toNat * 3), (bw, 0 + (IntKind.i64.wrap (x_v21 - 1) : Int).toNat * 1), (cn, dk + (x42 : Int).toNat * 3)] ((tP 44 4 0) :: (tI 43 x42) :: (tS 38 m y.buses.length p) :: (tI 36 x34.turn) :: (tB 27 true) :: (K31m2 x_v21 d x_v20 f x_v11 a_broken broken c_broken)) gh) => ?_
         refine D_run [20, 21, 22, 23] [23, 22, 21, 20, 19, 18, 17, 16, 15, 14, 13, 12, 11, 10, 9, 8, 7, 6, 5, 4, 3, 2, 1, 0] [48, 7, 5, 6, 2, 1] ((tB 48 (decide (x34.turn < x44.turn))) :: (K31m2 x_v21 d x_v20 f x_v11 a_broken broken c_broken)) (fun _ _ _ _ _ h => h) eh (PlOk.peek (PlOk.peek bs.plOk bs 0 1 rfl rfl ak [.int .i64 x32] (ar _)) bs 0 3 rfl rfl bo [.int .i64 x42] (b3 _)) (by kernel_rfl) (by rfl) (by kernel_rfl) fun he ej => ?_
         refine wpD_end (by kernel_rfl) ?_
         obtain rfl := Option.some.inj ac
         exact Exists.intro _ ⟨_, rfl, ((ej.keep [7, 5, 6, 2, 1, 48] (by rfl)).cut 1 (by kernel_rfl)), (bs.cutPl 1 (by kernel_rfl)), (Heap.le_refl _)⟩
        ·
         rw [bc, cond_false] at ac
         have ek : Kn 68 [(g, 0)] ((tB 27 false) :: (K31m2 x_v21 d x_v20 f x_v11 a_broken broken c_broken)) dl := (cv.setB 27 false (by rfl) bc).kp
         refine Dr [3, 4, 5, 6, 7, 8, 9, 10, 11, 12, 13, 14, 15, 16, 17, 18, 19, 20, 21, 22, 23] (dn 23) ((tB 48 false) :: (K31m2 x_v21 d x_v20 f x_v11 a_broken broken c_broken)) ek ai fun hf el => ?_
         refine wpD_end (by kernel_rfl) ?_
         obtain rfl := Option.some.inj ac
         exact Exists.intro _ ⟨_, rfl, el.kp, ai, (Heap.le_refl _)⟩
       ·
        rintro _ hz ⟨ch, ah, rfl, b5, av, ca⟩
        replace z := z.mono ca
        refine wC (dj) b5 (fun bz => ?_) (fun bz => ?_)
        ·
         rw [cond_t bz] at q
         refine wp_skip (wp_seq (wp_block (wp_region_G (by kernel_rfl) ?_)))
         replace av := av.drew
         refine wpG_of_D [] [(g, 0)] [⟨(K31c1 s y u m p), some 25⟩] ?_
         refine Dr [0, 1, 2, 3, 4, 5, 6, 7] (dn 7) ((tI 58 (IntKind.i64.wrap (x_v21 - 1))) :: (tS 56 d x_v20.length f) :: (K31m4 x_v21 d x_v20 f x_v11 a_broken broken c_broken)) b5 av fun hg em => ?_
         obtain ⟨x59, ex59, q⟩ := bnd q
         obtain ⟨c7, dd, f7⟩ := idx_some ex59
         have ff := lt_of_idx c7 dd
         obtain ⟨gw, fz, d0⟩ := cells_get (sz := 1) rfl z f7
         obtain rfl := fz
         obtain ⟨ad, bb⟩ := row_addr av (i := 0) rfl (b0 := 0 + (IntKind.i64.wrap (x_v21 - 1) : Int).toNat * 1) (Nat.lt_of_lt_of_le (Nat.lt_add_of_pos_right (by decide)) (cells_fit (sz := 1) rfl z ff))
         have a1 := av.addPlc (b := ad) (o := 0 + (IntKind.i64.wrap (x_v21 - 1) : Int).toNat * 1) (cs := []) (fun j c hj => by simp at hj) rfl (by kernel_rfl) (by kernel_rfl)
         have bp : ∀ (e : Env) k c, ([.int .i64 x59] : List SC)[k]? = some c → (l)[0 + (IntKind.i64.wrap (x_v21 - 1) : Int).toNat * 1 + k]? = some (c.den e) := fun e k c hk => d0 k _ (map_get hk)
         refine D_index 8 (IntKind.i64.wrap (x_v21 - 1)) [.int .i64 x59] (fun _ _ _ _ _ h => h) rfl rfl (rfl) rfl (by decide) (by kernel_rfl) (by kernel_rfl) em av.plOk (by rfl) (by rfl) (by rfl) bb (by rfl) c7 dd (by kernel_rfl) fun gi (en : Kn 68 [(g, 0), (ad, 0 + (IntKind.i64.wrap (x_v21 - 1) : Int).toNat * 1)] ((tP 59 1 0) :: (tI 58 (IntKind.i64.wrap (x_v21 - 1))) :: (tS 56 d x_v20.length f) :: (K31m4 x_v21 d x_v20 f x_v11 a_broken broken c_broken)) gi) => ?_
         refine D_run [9, 10, 11] [11, 10, 9, 8, 7, 6, 5, 4, 3, 2, 1, 0] [62, 61, 60, 55, 53, 52, 51, 7, 5, 6, 2, 1] ((tI 62 x_v21) :: (tS 61 d x_v20.length f) :: (tI 60 x59) :: (K31m4 x_v21 d x_v20 f x_v11 a_broken broken c_broken)) (fun _ _ _ _ _ h => h) en (PlOk.peek a1.plOk a1 0 1 rfl rfl bb [.int .i64 x59] (bp _)) (by kernel_rfl) (by rfl) (by kernel_rfl) fun hl eo => ?_
         obtain ⟨x63, ex63, q⟩ := bnd q
         obtain ⟨c8, de, f8⟩ := idx_some ex63
         have fg := lt_of_idx c8 de
         obtain ⟨gx, f0, d2⟩ := cells_get (sz := 1) rfl z f8
         obtain rfl := f0
         obtain ⟨ae, bx⟩ := row_addr a1 (i := 0) rfl (b0 := 0 + (x_v21 : Int).toNat * 1) (Nat.lt_of_lt_of_le (Nat.lt_add_of_pos_right (by decide)) (cells_fit (sz := 1) rfl z fg))
         have al := a1.addPlc (b := ae) (o := 0 + (x_v21 : Int).toNat * 1) (cs := []) (fun j c hj => by simp at hj) rfl (by kernel_rfl) (by kernel_rfl)
         have cu : ∀ (e : Env) k c, ([.int .i64 x63] : List SC)[k]? = some c → (l)[0 + (x_v21 : Int).toNat * 1 + k]? = some (c.den e) := fun e k c hk => d2 k _ (map_get hk)
         refine D_index 12 (x_v21) [.int .i64 x63] (fun _ _ _ _ _ h => h) rfl rfl (rfl) rfl (by decide) (by kernel_rfl) (by kernel_rfl) eo (PlOk.peek a1.plOk a1 0 1 rfl rfl bb [.int .i64 x59] (bp _)) (by rfl) (by rfl) (by rfl) bx (by rfl) c8 de (by kernel_rfl) fun gj (ep : Kn 68 [(g, 0), (ad, 0 + (IntKind.i64.wrap (x_v21 - 1) : Int).toNat * 1), (ae, 0 + (x_v21 : Int).toNat * 1)] ((tP 63 2 0) :: (tI 62 x_v21) :: (tS 61 d x_v20.length f) :: (tI 60 x59) :: (K31m4 x_v21 d x_v20 f x_v11 a_broken broken c_broken)) gj) => ?_
         refine D_run [13] [13, 12, 11, 10, 9, 8, 7, 6, 5, 4, 3, 2, 1, 0] [64, 60, 55, 53, 52, 51, 7, 5, 6, 2, 1] ((tI 64 x63) :: (tI 60 x59) :: (K31m4 x_v21 d x_v20 f x_v11 a_broken broken c_broken)) (fun _ _ _ _ _ h => h) ep (PlOk.peek (PlOk.peek al.plOk al 0 1 rfl rfl bb [.int .i64 x59] (bp _)) al 0 2 rfl rfl bx [.int .i64 x63] (cu _)) (by kernel_rfl) (by rfl) (by kernel_rfl) fun hn er => ?_
         obtain ⟨x65, ex65, q⟩ := bnd q
         obtain ⟨c9, df, f9⟩ := idx_some ex65
         have b8 := lt_of_idx c9 df
         obtain ⟨gy, f1, d3⟩ := cells_get (sz := 1) rfl z f9
         obtain rfl := f1
         obtain ⟨ag, cr⟩ := row_addr al (i := 0) rfl (b0 := 0 + (x_v21 : Int).toNat * 1) (Nat.lt_of_lt_of_le (Nat.lt_add_of_pos_right (by decide)) (cells_fit (sz := 1) rfl z b8))
         have fl := al.addPlc (b := ag) (o := 0 + (x_v21 : Int).toNat * 1) (cs := []) (fun j c hj => by simp at hj) rfl (by kernel_rfl) (by kernel_rfl)
         have g0 : ∀ (e : Env) k c, ([.int .i64 x65] : List SC)[k]? = some c → (l)[0 + (x_v21 : Int).toNat * 1 + k]? = some (c.den e) := fun e k c hk => d3 k _ (map_get hk)
         refine D_index 14 (x_v21) [.int .i64 x65] (fun _ _ _ _ _ h => h) rfl rfl (rfl) rfl (by decide) (by kernel_rfl) (by kernel_rfl) er (PlOk.peek (PlOk.peek al.plOk al 0 1 rfl rfl bb [.int .i64 x59] (bp _)) al 0 2 rfl rfl bx [.int .i64 x63] (cu _)) (by rfl) (by rfl) (by rfl) cr (by rfl) c9 df (by kernel_rfl) fun dm (es : Kn 68 [(g, 0), (ad, 0 + (IntKind.i64.wrap (x_v21 - 1) : Int).toNat * 1), (ae, 0 + (x_v21 : Int).toNat * 1), (ag, 0 + (x_v21 : Int).toNat * 1)] ((tP 65 3 0) :: (tI 64 x63) :: (tI 60 x59) :: (K31m4 x_v21 d x_v20 f x_v11 a_broken broken c_broken)) dm) => ?_
         obtain ⟨af, dq, q⟩ := bnd q
         obtain ⟨g3, g5, dh⟩ := upd_some dq
         refine D_sync 15 rfl (by kernel_rfl) (by decide) (rfl) (by kernel_rfl) fun K hK => ?_
         refine wp_storeRow 0 3 0 (0 + (x_v21 : Int).toNat * 1) (.c (.int .i64 x59)) es fl rfl rfl (by rfl) (by rfl) rfl rfl cr rfl (by kernel_rfl) (cells_fit (sz := 1) rfl z b8) fun gn et fm => ?_
         have bq : Cells ah af (l.take (0 + (x_v21 : Int).toNat * 1 + 0) ++ ([.int .i64 x59] : List Value) ++ l.drop (0 + (x_v21 : Int).toNat * 1 + 0 + 1)) := by rw [dh]; exact cells_set (sz := 1) rfl z b8 (rep_int : rep ah (x59 : Int) _)
         have c3 : x_v20.length = af.length := by rw [dh]; simp
         have eu : Kn 68 [(g, 0), (ad, 0 + (IntKind.i64.wrap (x_v21 - 1) : Int).toNat * 1), (ae, 0 + (x_v21 : Int).toNat * 1), (ag, 0 + (x_v21 : Int).toNat * 1)] [(65, .one (.c (.ptr 3 0))), (64, .one (.c (.int .i64 x63))), (60, .one (.c (.int .i64 x59))), (55, .one (.c (.int .i64 (IntKind.i64.wrap (x_v21 - 1))))), (53, .one (.c (.slice d af.length f))), (52, .one (.c (.int .i64 x_v21))), (51, .one (.c (.slice d af.length f))), (7, .one (.c (.int .i64 x_v21))), (5, .one (.c (.slice d af.length f))), (6, .one (.c (.int .i64 x_v11))), (2, .one (.c (.ptr 0 0))), (1, .one (.c (.slice a_broken broken.length c_broken)))] dm := by rw [← c3]; exact et
         have cb : Mem ⟨w, h, noX⟩ ah [(g, 0), (ad, 0 + (IntKind.i64.wrap (x_v21 - 1) : Int).toNat * 1), (ae, 0 + (x_v21 : Int).toNat * 1), (ag, 0 + (x_v21 : Int).toNat * 1)] [⟨[.slice s y.room.length u, .slice m y.buses.length p, .int .i64 y.broken], some 25⟩, ⟨[], none⟩, ⟨[], none⟩, ⟨[], none⟩] [⟨d, af.length, f, 3, 1, (l.take (0 + (x_v21 : Int).toNat * 1 + 0) ++ ([.int .i64 x59] : List Value) ++ l.drop (0 + (x_v21 : Int).toNat * 1 + 0 + 1)), 0⟩, ⟨ap, 1, 1, 3, 1, ([.int .i64 x_v11] : List Value), 0⟩] gn := by rw [← c3]; exact fm
         refine hK _ _ ?_
         refine wpG_of_D [] [(g, 0), (ad, 0 + (IntKind.i64.wrap (x_v21 - 1) : Int).toNat * 1), (ae, 0 + (x_v21 : Int).toNat * 1), (ag, 0 + (x_v21 : Int).toNat * 1)] [⟨(K31c1 s y u m p), some 25⟩, ⟨[], none⟩, ⟨[], none⟩, ⟨[], none⟩] ?_
         obtain ⟨x66, ex66, q⟩ := bnd q
         obtain ⟨da, dg, ga⟩ := idx_some ex66
         have b9 := lt_of_idx da dg
         obtain ⟨gz, f2, d4⟩ := cells_get (sz := 1) rfl bq ga
         obtain rfl := f2
         obtain ⟨a7, ct⟩ := row_addr cb (i := 0) rfl (b0 := 0 + (IntKind.i64.wrap (x_v21 - 1) : Int).toNat * 1) (Nat.lt_of_lt_of_le (Nat.lt_add_of_pos_right (by decide)) (cells_fit (sz := 1) rfl bq b9))
         have fn := cb.addPlc (b := a7) (o := 0 + (IntKind.i64.wrap (x_v21 - 1) : Int).toNat * 1) (cs := []) (fun j c hj => by simp at hj) rfl (by kernel_rfl) (by kernel_rfl)
         have g1 : ∀ (e : Env) k c, ([.int .i64 x66] : List SC)[k]? = some c → ((l.take (0 + (x_v21 : Int).toNat * 1 + 0) ++ ([.int .i64 x59] : List Value) ++ l.drop (0 + (x_v21 : Int).toNat * 1 + 0 + 1)))[0 + (IntKind.i64.wrap (x_v21 - 1) : Int).toNat * 1 + k]? = some (c.den e) := fun e k c hk => d4 k _ (map_get hk)
         refine D_index 16 (IntKind.i64.wrap (x_v21 - 1)) [.int .i64 x66] (fun _ _ _ _ _ h => h) rfl rfl (rfl) rfl (by decide) (by kernel_rfl) (by kernel_rfl) eu cb.plOk (by rfl) (by rfl) (by rfl) ct (by rfl) da dg (by kernel_rfl) fun ci (ev : Kn 68 [(g, 0), (ad, 0 + (IntKind.i64.wrap (x_v21 - 1) : Int).toNat * 1), (ae, 0 + (x_v21 : Int).toNat * 1), (ag, 0 + (x_v21 : Int).toNat * 1), (a7, 0 + (IntKind.i64.wrap (x_v21 - 1) : Int).toNat * 1)] ((tP 66 4 0) :: (tP 65 3 0) :: (tI 64 x63) :: (tI 60 x59) :: (tI 55 (IntKind.i64.wrap (x_v21 - 1))) :: (tS 53 d af.length f) :: (tI 52 x_v21) :: (tS 51 d af.length f) :: (tI 7 x_v21) :: (tS 5 d af.length f) :: (tI 6 x_v11) :: (K31m3 a_broken broken c_broken)) ci) => ?_
         obtain ⟨aj, dr, q⟩ := bnd q
         obtain ⟨g4, g6, di⟩ := upd_some dr
         refine D_sync 17 rfl (by kernel_rfl) (by decide) (rfl) (by kernel_rfl) fun K hK => ?_
         refine wp_storeRow 0 4 0 (0 + (IntKind.i64.wrap (x_v21 - 1) : Int).toNat * 1) (.c (.int .i64 x63)) ev fn rfl rfl (by rfl) (by rfl) rfl rfl ct rfl (by kernel_rfl) (cells_fit (sz := 1) rfl bq b9) fun go ew fo => ?_
         have d5 : Cells ah aj ((l.take (0 + (x_v21 : Int).toNat * 1 + 0) ++ ([.int .i64 x59] : List Value) ++ l.drop (0 + (x_v21 : Int).toNat * 1 + 0 + 1)).take (0 + (IntKind.i64.wrap (x_v21 - 1) : Int).toNat * 1 + 0) ++ ([.int .i64 x63] : List Value) ++ (l.take (0 + (x_v21 : Int).toNat * 1 + 0) ++ ([.int .i64 x59] : List Value) ++ l.drop (0 + (x_v21 : Int).toNat * 1 + 0 + 1)).drop (0 + (IntKind.i64.wrap (x_v21 - 1) : Int).toNat * 1 + 0 + 1)) := by rw [di]; exact cells_set (sz := 1) rfl bq b9 (rep_int : rep ah (x63 : Int) _)
         have c4 : af.length = aj.length := by rw [di]; simp
         have ex : Kn 68 [(g, 0), (ad, 0 + (IntKind.i64.wrap (x_v21 - 1) : Int).toNat * 1), (ae, 0 + (x_v21 : Int).toNat * 1), (ag, 0 + (x_v21 : Int).toNat * 1), (a7, 0 + (IntKind.i64.wrap (x_v21 - 1) : Int).toNat * 1)] [(66, .one (.c (.ptr 4 0))), (65, .one (.c (.ptr 3 0))), (64, .one (.c (.int .i64 x63))), (60, .one (.c (.int .i64 x59))), (55, .one (.c (.int .i64 (IntKind.i64.wrap (x_v21 - 1))))), (53, .one (.c (.slice d aj.length f))), (52, .one (.c (.int .i64 x_v21))), (51, .one (.c (.slice d aj.length f))), (7, .one (.c (.int .i64 x_v21))), (5, .one (.c (.slice d aj.length f))), (6, .one (.c (.int .i64 x_v11))), (2, .one (.c (.ptr 0 0))), (1, .one (.c (.slice a_broken broken.length c_broken)))] ci := by rw [← c4]; exact ew
         have c0 : Mem ⟨w, h, noX⟩ ah [(g, 0), (ad, 0 + (IntKind.i64.wrap (x_v21 - 1) : Int).toNat * 1), (ae, 0 + (x_v21 : Int).toNat * 1), (ag, 0 + (x_v21 : Int).toNat * 1), (a7, 0 + (IntKind.i64.wrap (x_v21 - 1) : Int).toNat * 1)] [⟨[.slice s y.room.length u, .slice m y.buses.length p, .int .i64 y.broken], some 25⟩, ⟨[], none⟩, ⟨[], none⟩, ⟨[], none⟩, ⟨[], none⟩] [⟨d, aj.length, f, 3, 1, ((l.take (0 + (x_v21 : Int).toNat * 1 + 0) ++ ([.int .i64 x59] : List Value) ++ l.drop (0 + (x_v21 : Int).toNat * 1 + 0 + 1)).take (0 + (IntKind.i64.wrap (x_v21 - 1) : Int).toNat * 1 + 0) ++ ([.int .i64 x63] : List Value) ++ (l.take (0 + (x_v21 : Int).toNat * 1 + 0) ++ ([.int .i64 x59] : List Value) ++ l.drop (0 + (x_v21 : Int).toNat * 1 + 0 + 1)).drop (0 + (IntKind.i64.wrap (x_v21 - 1) : Int).toNat * 1 + 0 + 1)), 0⟩, ⟨ap, 1, 1, 3, 1, ([.int .i64 x_v11] : List Value), 0⟩] go := by rw [← c4]; exact fo
         refine hK _ _ ?_
         have ey : Kn 68 [(g, 0), (ad, 0 + (IntKind.i64.wrap (x_v21 - 1) : Int).toNat * 1), (ae, 0 + (x_v21 : Int).toNat * 1), (ag, 0 + (x_v21 : Int).toNat * 1), (a7, 0 + (IntKind.i64.wrap (x_v21 - 1) : Int).toNat * 1)] ((tI 7 x_v21) :: (tS 5 d aj.length f) :: (tI 6 x_v11) :: (K31m3 a_broken broken c_broken)) ci := ex.kp
         refine wpG_end (by kernel_rfl) (wp_region_from (Rk 0 3 ((tI 7 (IntKind.i64.wrap (x_v21 - 1))) :: (tS 5 d aj.length f) :: (tI 6 x_v11) :: (K31m3 a_broken broken c_broken)) ey c0 fun ho ez => ?_))
         refine wf ?_
         exact Exists.intro cg ⟨Nat.lt_succ_self _, Exists.intro aj ⟨(IntKind.i64.wrap (x_v21 - 1)), d, f, ((l.take (0 + (x_v21 : Int).toNat * 1 + 0) ++ ([.int .i64 x59] : List Value) ++ l.drop (0 + (x_v21 : Int).toNat * 1 + 0 + 1)).take (0 + (IntKind.i64.wrap (x_v21 - 1) : Int).toNat * 1 + 0) ++ ([.int .i64 x63] : List Value) ++ (l.take (0 + (x_v21 : Int).toNat * 1 + 0) ++ ([.int .i64 x59] : List Value) ++ l.drop (0 + (x_v21 : Int).toNat * 1 + 0 + 1)).drop (0 + (IntKind.i64.wrap (x_v21 - 1) : Int).toNat * 1 + 0 + 1)), _, _, rfl, ((ez.keep [7, 5, 6, 2, 1] (by rfl)).cut 1 (by kernel_rfl)), (c0.cutPl 1 (by kernel_rfl)), (Heap.le_trans ax ca), d5, q⟩⟩
        ·
         rw [cond_f bz] at q
         refine wp_exit ?_
         obtain rfl := Option.some.inj q
         exact Exists.intro d ⟨f, l, _, _, rfl, b5.kp, av, (Heap.le_trans ax ca), z⟩
     ·
      rintro _ h0 ⟨a5, a8, bv, cl, bn, rfl, e0, c1, fi, d7⟩
      refine wp_region_from (Rk 0 3 ((tI 6 (IntKind.i64.wrap (x_v11 + 1))) :: (tS 5 a5 a4.length a8) :: (K31m3 a_broken broken c_broken)) e0 c1 fun hp e1 => ?_)
      refine wf ?_
      exact Exists.intro a3 ⟨Nat.lt_succ_self _, Exists.intro a4 ⟨(IntKind.i64.wrap (x_v11 + 1)), a5, a8, bv, _, _, rfl, e1.kp, (c1.cutRw 1), (Heap.le_trans ay (Heap.le_trans az fi)), d7, x⟩⟩
   ·
    rw [b1, cond_false] at x
    refine wp_exit ?_
    obtain rfl := Option.some.inj x
    exact Exists.intro aa ⟨ab, aw, _, _, rfl, b6.kp, bg, ay, bd⟩
 ·
  rintro _ gp ⟨ao, aq, bh, cj, bl, rfl, e2, cc, g2, b4⟩
  refine wp_seq (wp_region_from (Rk 0 2 [(tS 4 ao an.length aq)] e2 cc fun hq e3 => ?_))
  refine wf (wp_ret ?_)
  obtain ⟨cq, fj, fu, cd⟩ := cc.settle (i := 0) rfl
  replace b4 := b4.mono fj
  replace cd : Mem ⟨w, h, noX⟩ cq [(g, 0)] [⟨(K31c1 s y u m p), some 25⟩] [⟨ao, an.length, aq, 3, 1, bh, (bh : List Value).length⟩] gp := cd
  have ft : RepS cq ao aq an := ⟨_, b4, fu, cc.rowCap (i := 0) rfl⟩
  obtain rfl := Option.some.inj H
  exact rt (.one (.c (.slice ao an.length aq))) e3 cd ⟨_, _, rfl, ft⟩
abbrev K34e1 (q s u : Nat) (x_v12 : Int) : Env := [(q, 0), (s, u + (x_v12 : Int).toNat * 1)]
abbrev K34c2 (ad : Option Addr) (y : Yard) (af : Nat) (ae : Option Addr) (ag : Nat) : List SC := [.slice ad y.room.length af, .slice ae y.buses.length ag, .int .i64 y.broken]
abbrev K34e3 (q s u : Nat) (x_v12 : Int) (ab ac : Nat) (x_v22 : Int) (ap : Nat) : Env := [(q, 0), (s, u + (x_v12 : Int).toNat * 1), (ab, ac + (x_v22 : Int).toNat * 1), (ap, 0 + (x_v12 : Int).toNat * 1)]
abbrev K34e4 (q s u : Nat) (x_v12 : Int) (ab ac : Nat) (x_v22 : Int) (ap ay : Nat) : Env := [(q, 0), (s, u + (x_v12 : Int).toNat * 1), (ab, ac + (x_v22 : Int).toNat * 1), (ap, 0 + (x_v12 : Int).toNat * 1), (ay, 0 + (x_v12 : Int).toNat * 1)]
abbrev K34e5 (q s u : Nat) (x_v12 : Int) (ab ac : Nat) (x_v22 : Int) (a9 bg : Nat) (x48 : Int) (bl bs : Nat) (x30 : Int) : Env := [(q, 0), (s, u + (x_v12 : Int).toNat * 1), (ab, ac + (x_v22 : Int).toNat * 1), (a9, bg + (x48 : Int).toNat * 1), (bl, bs + (x30 : Int).toNat * 1)]
abbrev K34m6 (x_v22 x30 x_v12 : Int) (m : Option Addr) (x_v20 : List (List Int)) (p : Nat) (d : Option Addr) (x18 : List Int) (l : Nat) (z : Option Addr) (x_v21 : List Int) (aa : Nat) (a_lanes : Option Addr) (lanes : List Int) (c_lanes : Nat) (a_order : Option Addr) (order : List Int) (c_order : Nat) : TM := [(tI 14 x_v22), (tI 13 x30), (tI 12 x_v12), (tS 11 m x_v20.length p), (tS 10 d x18.length l), (tS 9 z x_v21.length aa), (tS 1 a_lanes lanes.length c_lanes), (tS 2 a_order order.length c_order)]
abbrev K34m7 (a_lanes : Option Addr) (lanes : List Int) (c_lanes : Nat) (a_order : Option Addr) (order : List Int) (c_order : Nat) : TM := [(tS 1 a_lanes lanes.length c_lanes), (tS 2 a_order order.length c_order)]
abbrev K34m8 (x_v12 : Int) (m : Option Addr) (x_v20 : List (List Int)) (p : Nat) (x48 x_v22 x30 : Int) (d : Option Addr) (x18 : List Int) (l : Nat) (ak : Option Addr) (ai : ((List Int) × Bool)) (al : Nat) (a_lanes : Option Addr) (lanes : List Int) (c_lanes : Nat) (a_order : Option Addr) (order : List Int) (c_order : Nat) : TM := (tI 66 x_v12) :: (tS 65 m x_v20.length p) :: (tI 15 x48) :: (tI 14 x_v22) :: (tI 13 x30) :: (tI 12 x_v12) :: (tS 11 m x_v20.length p) :: (tS 10 d x18.length l) :: (tS 9 ak ai.1.length al) :: (K34m7 a_lanes lanes c_lanes a_order order c_order)
set_option maxRecDepth 100000 in
set_option maxHeartbeats 4000000 in
theorem ref_Morning_ok (n : Nat) {h : Heap} {w : World} (hh : Has h w) (y : Yard) {cs_y : List Value} (hx_y : rep h y cs_y) (lanes : List Int) {a_lanes : Option Addr} {c_lanes : Nat} (hr_lanes : RepS h a_lanes c_lanes lanes) (order : List Int) {a_order : Option Addr} {c_order : Nat} (hr_order : RepS h a_order c_order order) (broken : List Int) {a_broken : Option Addr} {c_broken : Nat} (hr_broken : RepS h a_broken c_broken broken) {r : List (List Int)} (H : ref_Morning n y lanes order broken = some r) :
  Calls Try.prog 34 #[.agg cs_y.toArray, .slice a_lanes lanes.length c_lanes, .slice a_order order.length c_order, .slice a_broken broken.length c_broken] w (Ret (fun h v => ∃ a c, v = .slice a r.length c ∧ RepS h a c r) h w) := by
 obtain ⟨_, _, rfl, ⟨ad, af, rfl, be⟩, ⟨_, _, rfl, ⟨ae, ag, rfl, bf⟩, rfl⟩⟩ := hx_y
 refine enter 84 [.agg (K34c2 ad y af ae ag), .c (.slice a_lanes lanes.length c_lanes), .c (.slice a_order order.length c_order), .c (.slice a_broken broken.length c_broken)] Try.func34 rfl rfl rfl rfl fun t hk => ?_
 have hm := Mem.begin h w hh
 unfold ref_Morning at H
 refine wp_seq (wp_region_from (wl fun K hK => ?_))
 refine wb (.agg (K34c2 ad y af ae ag)) hk hm fun q jl li (f5 : Kn 84 [(q, 0)] [(tP 4 0 0), (tA 0 (K34c2 ad y af ae ag)), (tS 1 a_lanes lanes.length c_lanes), (tS 2 a_order order.length c_order), (tS 3 a_broken broken.length c_broken)] jl) cj => hK _ _ ?_
 refine Rk 1 1 [(tP 4 0 0), (tS 1 a_lanes lanes.length c_lanes), (tS 2 a_order order.length c_order), (tS 3 a_broken broken.length c_broken)] f5 cj fun ka f8 => ?_
 refine wf (wp_seq (wp_region_from (Rk 0 1 [(tS 9 none 0 0), (tP 4 0 0), (tS 1 a_lanes lanes.length c_lanes), (tS 2 a_order order.length c_order), (tS 3 a_broken broken.length c_broken)] f8 cj fun kb gb => ?_)))
 refine wf (wp_seq (wp_region_from (Rk 0 2 ((tS 17 a_broken broken.length c_broken) :: (tA 16 (K34c2 ad y af ae ag)) :: (tS 9 none 0 0) :: (K34m7 a_lanes lanes c_lanes a_order order c_order)) gb cj fun ke gi => ?_)))
 obtain ⟨x18, ex18, H⟩ := bnd H
 refine wl fun K hK => ?_
 refine wc [.agg (K34c2 ad y af ae ag), .c (.slice a_broken broken.length c_broken)] gi cj (ref_Turns_ok n cj.has y ((rep_pair (rep_slice be) (rep_pair (rep_slice bf) rep_int)) : rep h y _) broken hr_broken ex18) fun k4 b3 k9 fg c0 dk => ?_
 replace be := be.mono c0
 replace bf := bf.mono c0
 replace hr_lanes := hr_lanes.mono c0
 replace hr_order := hr_order.mono c0
 obtain ⟨d, l, rfl, bw⟩ := fg
 refine ⟨.one (.c (.slice d x18.length l)), rfl, fun je (gz : Kn 84 [(q, 0)] ((tS 18 d x18.length l) :: (tS 17 a_broken broken.length c_broken) :: (tA 16 (K34c2 ad y af ae ag)) :: (tS 9 none 0 0) :: (K34m7 a_lanes lanes c_lanes a_order order c_order)) je) => hK _ _ ?_⟩
 refine Rk 3 1 ((tS 10 d x18.length l) :: (tS 9 none 0 0) :: (K34m7 a_lanes lanes c_lanes a_order order c_order)) gz dk fun kq g2 => ?_
 refine wf (wp_seq (wp_region_from (Rk 0 2 ((tI 20 ((x18.length : Nat) : Int)) :: (tS 10 d x18.length l) :: (tS 9 none 0 0) :: (K34m7 a_lanes lanes c_lanes a_order order c_order)) g2 dk fun kr g5 => ?_)))
 obtain ⟨x21, ex21, H⟩ := bnd H
 obtain ⟨ie, il, e5⟩ := mk_some ex21
 refine wl fun K hK => ?_
 refine wp_makeSlice 22 1 24 [.slice none 0 0] (((x18.length : Nat) : Int)) g5 dk rfl rfl (by decide) (by rfl) (by kernel_rfl) (by kernel_rfl) (by rfl) ie il (by decide) fun bk jk d5 (eo : Kn 84 [(q, 0)] [(21, .one (.c (.slice bk ((((x18.length : Nat) : Int) : Int).toNat) ((((x18.length : Nat) : Int) : Int).toNat)))), (20, .one (.c (.int .i64 ((x18.length : Nat) : Int)))), (10, .one (.c (.slice d x18.length l))), (9, .one (.c (.slice none 0 0))), (1, .one (.c (.slice a_lanes lanes.length c_lanes))), (2, .one (.c (.slice a_order order.length c_order)))] jk) (h7 : Mem ⟨w, h, noX⟩ b3 [(q, 0)] [⟨[.slice ad y.room.length af, .slice ae y.buses.length ag, .int .i64 y.broken], some 25⟩] [⟨bk, (((x18.length : Nat) : Int) : Int).toNat, (((x18.length : Nat) : Int) : Int).toNat, 22, 1, (List.flatten (List.replicate (((x18.length : Nat) : Int) : Int).toNat ([.slice none 0 0] : List Value))), 0⟩] d5) => ?_
 have hx : (((x18.length : Nat) : Int) : Int).toNat = x21.length := by rw [e5]; simp
 obtain ⟨bz, f2, cn⟩ := SFam.make (g := fgL) (pr := prL) (rw := []) (x := (([] : List Int) : List Int)) 3 1 rfl rfl e5 h7
 rw [hx] at eo
 replace cn : Mem ⟨w, h, noX⟩ b3 [(q, 0)] [⟨(K34c2 ad y af ae ag), some 25⟩] (⟨bk, x21.length, x21.length, 22, 1, (famX fgL bz x21), 0⟩ :: bz) d5 := cn
 refine hK _ _ ?_
 refine Rk 3 1 ((tS 11 bk x21.length x21.length) :: (tS 10 d x18.length l) :: (tS 9 none 0 0) :: (K34m7 a_lanes lanes c_lanes a_order order c_order)) eo cn fun k0 hp => ?_
 refine wf (wp_seq (wp_seq (wp_region_from (Rk 0 1 ((tI 12 0) :: (tS 11 bk x21.length x21.length) :: (tS 10 d x18.length l) :: (tS 9 none 0 0) :: (K34m7 a_lanes lanes c_lanes a_order order c_order)) hp cn fun k1 hq => ?_))))
 refine wf ?_
 have h8 : Mem ⟨w, h, noX⟩ b3 [(q, 0)] [⟨(K34c2 ad y af ae ag), some 25⟩] (⟨bk, x21.length, x21.length, 22, 1, (famX fgL bz x21), 0⟩ :: ⟨none, 0, 0, 3, 1, [], 0⟩ :: bz) d5 := Mem.famIn [⟨bk, x21.length, x21.length, 22, 1, (famX fgL bz x21), 0⟩] (cn.nilRow 3 1)
 have fy : Cells b3 ([] : List Int) [] := Cells.nil
 obtain ⟨ao, d8, H⟩ := bnd H
 refine wp_mid' (fun a' w' => ∃ (a8 : Option Addr) (ba : Nat) (bq : List Row) (b9 : Option Addr) (cc : Nat) (b6 : List Value) (ce : Nat) (d3 : Array Value) (cf : Heap), a' = ⟨d3, []⟩ ∧ Kn 84 [(q, 0)] [(tS 11 a8 ao.1.length ba)] d3 ∧ Mem ⟨w, h, noX⟩ cf [(q, 0)] [⟨(K34c2 ad y af ae ag), some 25⟩] (⟨a8, ao.1.length, ba, 22, 1, (famX fgL bq ao.1), 0⟩ :: ⟨b9, ao.2.length, cc, 3, 1, b6, ce⟩ :: bq) w' ∧ Heap.le b3 cf ∧ SFam prL 3 1 cf bq ao.1 ∧ Cells cf ao.2 b6) ?_ ?_
 ·
  refine wp_block ?_
  refine wp_loop_n (fun i6 a' w' => ∃ (x_v10 : List (List Int)) (x_v11 : List Int) (x_v12 : Int) (a0 : Option Addr) (a2 : Nat) (b1 : List Row) (a1 : Option Addr) (a3 : Nat) (cq : List Value) (cx : Nat) (d4 : Array Value) (bu : Heap), a' = ⟨d4, []⟩ ∧ Kn 84 [(q, 0)] ((tI 12 x_v12) :: (tS 11 a0 x_v10.length a2) :: (tS 10 d x18.length l) :: (tS 9 a1 x_v11.length a3) :: (K34m7 a_lanes lanes c_lanes a_order order c_order)) d4 ∧ Mem ⟨w, h, noX⟩ bu [(q, 0)] [⟨(K34c2 ad y af ae ag), some 25⟩] (⟨a0, x_v10.length, a2, 22, 1, (famX fgL b1 x_v10), 0⟩ :: ⟨a1, x_v11.length, a3, 3, 1, cq, cx⟩ :: b1) w' ∧ Heap.le b3 bu ∧ SFam prL 3 1 bu b1 x_v10 ∧ Cells bu x_v11 cq ∧ ref_Morning_l1 i6 lanes order x18 x_v10 x_v11 x_v12 = some ao) n ?_ ?_
  ·
   exact Exists.intro x21 ⟨([] : List Int), 0, bk, x21.length, bz, none, 0, ([]), 0, _, _, rfl, hq.kp, h8, (Heap.le_refl _), f2, fy, d8⟩
  ·
   rintro c5 _ lh ⟨x_v10, x_v11, x_v12, a0, a2, b1, a1, a3, cq, cx, d4, bu, rfl, hr, c3, bv, eh, ef, ar⟩
   clear d8
   obtain _ | c5 := c5
   ·
    rw [ref_Morning_l1] at ar; cases ar
   rw [ref_Morning_l1] at ar
   replace be := be.mono bv
   replace bf := bf.mono bv
   replace hr_lanes := hr_lanes.mono bv
   replace hr_order := hr_order.mono bv
   replace bw := bw.mono bv
   refine wp_seq (wp_seq (wp_region_from (Rk 0 4 ((tB 25 (decide (x_v12 < ((x18.length : Nat) : Int)))) :: (tI 12 x_v12) :: (tS 11 a0 x_v10.length a2) :: (tS 10 d x18.length l) :: (tS 9 a1 x_v11.length a3) :: (K34m7 a_lanes lanes c_lanes a_order order c_order)) hr c3 fun k2 dg => ?_)))
   refine wf (wC (decide (x_v12 < ((x18.length : Nat) : Int))) dg (fun c8 => ?_) (fun c8 => ?_))
   ·
    rw [c8, cond_true] at ar
    refine wp_skip (wp_seq (wp_block (wp_seq (wp_region_from (Rk 0 2 ((tI 29 x_v12) :: (tS 28 d x18.length l) :: (tI 12 x_v12) :: (tS 11 a0 x_v10.length a2) :: (tS 10 d x18.length l) :: (tS 9 a1 x_v11.length a3) :: (K34m7 a_lanes lanes c_lanes a_order order c_order)) dg c3 fun k3 hs => ?_)))))
    obtain ⟨x30, ex30, ar⟩ := bnd ar
    obtain ⟨ig, im, i4⟩ := idx_some ex30
    obtain ⟨s, u, jv, fn, iz, fz⟩ := bw.get (by decide) i4
    obtain rfl := iz
    have ds := c3.addPlc (b := s) (o := u + (x_v12 : Int).toNat * 1) (cs := [.int .i64 x30]) (fun j c hj => fz j _ (map_get hj)) rfl (by kernel_rfl) (by kernel_rfl)
    refine R_index 2 (x_v12) rfl rfl (rfl) rfl (by decide) hs (by rfl) (by rfl) (by rfl) fn (by rfl) ig im (by kernel_rfl) fun jm (ht : Kn 84 (K34e1 q s u x_v12) ((tP 30 1 0) :: (tI 29 x_v12) :: (tS 28 d x18.length l) :: (tI 12 x_v12) :: (tS 11 a0 x_v10.length a2) :: (tS 10 d x18.length l) :: (tS 9 a1 x_v11.length a3) :: (K34m7 a_lanes lanes c_lanes a_order order c_order)) jm) => ?_
    refine Rk 3 2 ((tI 13 x30) :: (tI 12 x_v12) :: (tS 11 a0 x_v10.length a2) :: (tS 10 d x18.length l) :: (tS 9 a1 x_v11.length a3) :: (K34m7 a_lanes lanes c_lanes a_order order c_order)) ht ds fun j8 f6 => ?_
    refine wf (wp_seq (wp_seq (wp_region_from (Rk 0 1 ((tI 14 0) :: (tI 13 x30) :: (tI 12 x_v12) :: (tS 11 a0 x_v10.length a2) :: (tS 10 d x18.length l) :: (tS 9 a1 x_v11.length a3) :: (K34m7 a_lanes lanes c_lanes a_order order c_order)) f6 ds fun j9 f7 => ?_))))
    refine wf ?_
    obtain ⟨aj, d7, ar⟩ := bnd ar
    refine wp_mid' (fun a' w' => ∃ (av : Option Addr) (aw : Nat) (bc : List Row) (bh : Option Addr) (bm : Nat) (bt : List Value) (cw : Nat) (dy : Array Value) (bd : Heap), a' = ⟨dy, []⟩ ∧ Kn 84 (K34e1 q s u x_v12) ((tI 13 x30) :: (tI 12 x_v12) :: (tS 11 av aj.1.length aw) :: (tS 10 d x18.length l) :: (tS 9 bh aj.2.length bm) :: (K34m7 a_lanes lanes c_lanes a_order order c_order)) dy ∧ Mem ⟨w, h, noX⟩ bd (K34e1 q s u x_v12) [⟨(K34c2 ad y af ae ag), some 25⟩, ⟨[.int .i64 x30], none⟩] (⟨av, aj.1.length, aw, 22, 1, (famX fgL bc aj.1), 0⟩ :: ⟨bh, aj.2.length, bm, 3, 1, bt, cw⟩ :: bc) w' ∧ Heap.le bu bd ∧ SFam prL 3 1 bd bc aj.1 ∧ Cells bd aj.2 bt) ?_ ?_
    ·
     refine wp_block ?_
     refine wp_loop_n (fun i5 a' w' => ∃ (x_v20 : List (List Int)) (x_v21 : List Int) (x_v22 : Int) (m : Option Addr) (p : Nat) (an : List Row) (z : Option Addr) (aa : Nat) (a7 : List Value) (cd : Nat) (dz : Array Value) (b2 : Heap), a' = ⟨dz, []⟩ ∧ Kn 84 (K34e1 q s u x_v12) (K34m6 x_v22 x30 x_v12 m x_v20 p d x18 l z x_v21 aa a_lanes lanes c_lanes a_order order c_order) dz ∧ Mem ⟨w, h, noX⟩ b2 (K34e1 q s u x_v12) [⟨(K34c2 ad y af ae ag), some 25⟩, ⟨[.int .i64 x30], none⟩] (⟨m, x_v20.length, p, 22, 1, (famX fgL an x_v20), 0⟩ :: ⟨z, x_v21.length, aa, 3, 1, a7, cd⟩ :: an) w' ∧ Heap.le bu b2 ∧ SFam prL 3 1 b2 an x_v20 ∧ Cells b2 x_v21 a7 ∧ ref_Morning_l2 i5 lanes order x_v12 x30 x_v20 x_v21 x_v22 = some aj) c5 ?_ ?_
     ·
      exact Exists.intro x_v10 ⟨x_v11, 0, a0, a2, b1, a1, a3, cq, cx, _, _, rfl, f7.kp, ds, (Heap.le_refl _), eh, ef, d7⟩
     ·
      rintro co _ k8 ⟨x_v20, x_v21, x_v22, m, p, an, z, aa, a7, cd, dz, b2, rfl, f9, ck, br, ax, a5, ah⟩
      clear d7
      obtain _ | co := co
      ·
       rw [ref_Morning_l2] at ah; cases ah
      rw [ref_Morning_l2] at ah
      replace be := be.mono br
      replace bf := bf.mono br
      replace hr_lanes := hr_lanes.mono br
      replace hr_order := hr_order.mono br
      replace bw := bw.mono br
      refine wp_seq (wp_seq ?_)
      obtain ⟨e6, bx, ah⟩ := bnd ah
      refine wp_mid' (fun a' w' => ∃ (d0 : Array Value) (cy : Heap), a' = ⟨d0, []⟩ ∧ Kn 84 (K34e1 q s u x_v12) [(tI 14 x_v22), (tI 13 x30), (tI 12 x_v12), (tS 11 m x_v20.length p), (tS 10 d x18.length l), (tS 9 z x_v21.length aa), (tS 1 a_lanes lanes.length c_lanes), (tS 2 a_order order.length c_order), (tB 43 e6)] d0 ∧ Mem ⟨w, h, noX⟩ cy (K34e1 q s u x_v12) [⟨(K34c2 ad y af ae ag), some 25⟩, ⟨[.int .i64 x30], none⟩] (⟨m, x_v20.length, p, 22, 1, (famX fgL an x_v20), 0⟩ :: ⟨z, x_v21.length, aa, 3, 1, a7, cd⟩ :: an) w' ∧ Heap.le b2 cy) ?_ ?_
      ·
       refine wp_region_from (Rk 0 5 ((tB 36 (decide (x_v22 < ((order.length : Nat) : Int)))) :: (K34m6 x_v22 x30 x_v12 m x_v20 p d x18 l z x_v21 aa a_lanes lanes c_lanes a_order order c_order)) f9 ck fun e8 ek => ?_)
       rcases Bool.eq_false_or_eq_true (decide (x_v22 < ((order.length : Nat) : Int))) with ch | ch
       ·
        rw [ch, cond_true] at bx
        have ga : Kn 84 (K34e1 q s u x_v12) ((tB 36 true) :: (K34m6 x_v22 x30 x_v12 m x_v20 p d x18 l z x_v21 aa a_lanes lanes c_lanes a_order order c_order)) e8 := (ek.setB 36 true (by rfl) ch).kp
        refine Rk 5 2 ((tI 38 x_v22) :: (tS 37 a_order order.length c_order) :: (tB 36 true) :: (K34m6 x_v22 x30 x_v12 m x_v20 p d x18 l z x_v21 aa a_lanes lanes c_lanes a_order order c_order)) ga ck fun kc el => ?_
        obtain ⟨x39, ex39, bx⟩ := bnd bx
        obtain ⟨h9, ih, i0⟩ := idx_some ex39
        obtain ⟨d6, e7, jr, fj, iu, fp⟩ := hr_order.get (by decide) i0
        obtain rfl := iu
        have es := ck.addPlc (b := d6) (o := e7 + (x_v22 : Int).toNat * 1) (cs := [.int .i64 x39]) (fun j c hj => fp j _ (map_get hj)) rfl (by kernel_rfl) (by kernel_rfl)
        refine R_index 7 (x_v22) rfl rfl (wantedS_sound el (by kernel_rfl)) rfl (by decide) el (by rfl) (by rfl) (by rfl) fj (by rfl) h9 ih (by kernel_rfl) fun i7 (gc : Kn 84 [(q, 0), (s, u + (x_v12 : Int).toNat * 1), (d6, e7 + (x_v22 : Int).toNat * 1)] ((tP 39 2 0) :: (tI 38 x_v22) :: (tS 37 a_order order.length c_order) :: (tB 36 true) :: (K34m6 x_v22 x30 x_v12 m x_v20 p d x18 l z x_v21 aa a_lanes lanes c_lanes a_order order c_order)) i7) => ?_
        refine Rk 8 4 ((tB 43 (x39 != x30)) :: (K34m6 x_v22 x30 x_v12 m x_v20 p d x18 l z x_v21 aa a_lanes lanes c_lanes a_order order c_order)) gc es fun kd gd => ?_
        refine wf ?_
        obtain rfl := Option.some.inj bx
        exact Exists.intro _ ⟨_, rfl, ((gd.keep [14, 13, 12, 11, 10, 9, 1, 2, 43] (by rfl)).cut 2 (by kernel_rfl)), (es.cutPl 2 (by kernel_rfl)), (Heap.le_refl _)⟩
       ·
        rw [ch, cond_false] at bx
        have gf : Kn 84 (K34e1 q s u x_v12) ((tB 36 false) :: (K34m6 x_v22 x30 x_v12 m x_v20 p d x18 l z x_v21 aa a_lanes lanes c_lanes a_order order c_order)) e8 := (ek.setB 36 false (by rfl) ch).kp
        refine Rk 5 7 ((tB 43 false) :: (K34m6 x_v22 x30 x_v12 m x_v20 p d x18 l z x_v21 aa a_lanes lanes c_lanes a_order order c_order)) gf ck fun kf gg => ?_
        refine wf ?_
        obtain rfl := Option.some.inj bx
        exact Exists.intro _ ⟨_, rfl, gg.kp, ck, (Heap.le_refl _)⟩
      ·
       rintro _ jn ⟨d0, cy, rfl, de, di, a6⟩
       replace be := be.mono a6
       replace bf := bf.mono a6
       replace hr_lanes := hr_lanes.mono a6
       replace hr_order := hr_order.mono a6
       replace bw := bw.mono a6
       replace ax := ax.mono a6
       replace a5 := a5.mono a6
       refine wC (e6) de (fun c6 => ?_) (fun c6 => ?_)
       ·
        rw [cond_t c6] at ah
        refine wp_skip (wp_seq (wp_block (wp_seq (wp_region_from (Rk 0 2 ((tI 47 x_v22) :: (tS 46 a_order order.length c_order) :: (K34m6 x_v22 x30 x_v12 m x_v20 p d x18 l z x_v21 aa a_lanes lanes c_lanes a_order order c_order)) de di fun kg gh => ?_)))))
        obtain ⟨x48, ex48, ah⟩ := bnd ah
        obtain ⟨ia, ii, i1⟩ := idx_some ex48
        obtain ⟨ab, ac, js, fk, iv, fq⟩ := hr_order.get (by decide) i1
        obtain rfl := iv
        have b4 := di.addPlc (b := ab) (o := ac + (x_v22 : Int).toNat * 1) (cs := [.int .i64 x48]) (fun j c hj => fq j _ (map_get hj)) rfl (by kernel_rfl) (by kernel_rfl)
        refine R_index 2 (x_v22) rfl rfl (rfl) rfl (by decide) gh (by rfl) (by rfl) (by rfl) fk (by rfl) ia ii (by kernel_rfl) fun i8 (gj : Kn 84 [(q, 0), (s, u + (x_v12 : Int).toNat * 1), (ab, ac + (x_v22 : Int).toNat * 1)] ((tP 48 2 0) :: (tI 47 x_v22) :: (tS 46 a_order order.length c_order) :: (K34m6 x_v22 x30 x_v12 m x_v20 p d x18 l z x_v21 aa a_lanes lanes c_lanes a_order order c_order)) i8) => ?_
        refine Rk 3 2 ((tI 15 x48) :: (K34m6 x_v22 x30 x_v12 m x_v20 p d x18 l z x_v21 aa a_lanes lanes c_lanes a_order order c_order)) gj b4 fun kh gk => ?_
        refine wf (wp_seq ?_)
        obtain ⟨ai, a4, ah⟩ := bnd ah
        refine wp_mid' (fun a' w' => ∃ (ak : Option Addr) (al : Nat) (au : List Value) (bb : Nat) (d1 : Array Value) (aq : Heap), a' = ⟨d1, []⟩ ∧ Kn 84 [(q, 0), (s, u + (x_v12 : Int).toNat * 1), (ab, ac + (x_v22 : Int).toNat * 1)] [(tI 15 x48), (tI 14 x_v22), (tI 13 x30), (tI 12 x_v12), (tS 11 m x_v20.length p), (tS 10 d x18.length l), (tS 9 ak ai.1.length al), (tS 1 a_lanes lanes.length c_lanes), (tS 2 a_order order.length c_order), (tB 64 ai.2)] d1 ∧ Mem ⟨w, h, noX⟩ aq [(q, 0), (s, u + (x_v12 : Int).toNat * 1), (ab, ac + (x_v22 : Int).toNat * 1)] [⟨(K34c2 ad y af ae ag), some 25⟩, ⟨[.int .i64 x30], none⟩, ⟨[.int .i64 x48], none⟩] (⟨m, x_v20.length, p, 22, 1, (famX fgL an x_v20), 0⟩ :: ⟨ak, ai.1.length, al, 3, 1, au, bb⟩ :: an) w' ∧ Heap.le cy aq ∧ Cells aq ai.1 au) ?_ ?_
        ·
         refine wp_region_G (by kernel_rfl) ?_
         replace b4 := b4.drew
         refine wpG_of_D [] [(q, 0), (s, u + (x_v12 : Int).toNat * 1), (ab, ac + (x_v22 : Int).toNat * 1)] [⟨(K34c2 ad y af ae ag), some 25⟩, ⟨[.int .i64 x30], none⟩, ⟨[.int .i64 x48], none⟩] ?_
         refine Dr [0, 1] [1, 0] ((tI 51 x48) :: (tS 50 a_lanes lanes.length c_lanes) :: (tI 15 x48) :: (K34m6 x_v22 x30 x_v12 m x_v20 p d x18 l z x_v21 aa a_lanes lanes c_lanes a_order order c_order)) gk b4 fun ki gl => ?_
         obtain ⟨x52, ex52, a4⟩ := bnd a4
         obtain ⟨ib, ij, i2⟩ := idx_some ex52
         obtain ⟨a9, bg, jt, fl, iw, fr⟩ := hr_lanes.get (by decide) i2
         obtain rfl := iw
         have dj := b4.addPlc (b := a9) (o := bg + (x48 : Int).toNat * 1) (cs := [.int .i64 x52]) (fun j c hj => fr j _ (map_get hj)) rfl (by kernel_rfl) (by kernel_rfl)
         refine D_index 2 (x48) [.int .i64 x52] (fun _ _ _ _ _ h => h) rfl rfl (rfl) rfl (by decide) (by kernel_rfl) (by kernel_rfl) gl b4.plOk (by rfl) (by rfl) (by rfl) fl (by rfl) ib ij (by kernel_rfl) fun i9 (gm : Kn 84 [(q, 0), (s, u + (x_v12 : Int).toNat * 1), (ab, ac + (x_v22 : Int).toNat * 1), (a9, bg + (x48 : Int).toNat * 1)] ((tP 52 3 0) :: (tI 51 x48) :: (tS 50 a_lanes lanes.length c_lanes) :: (tI 15 x48) :: (K34m6 x_v22 x30 x_v12 m x_v20 p d x18 l z x_v21 aa a_lanes lanes c_lanes a_order order c_order)) i9) => ?_
         refine Dr [3, 4, 5] (dn 5) ((tI 55 x30) :: (tS 54 a_lanes lanes.length c_lanes) :: (tI 53 x52) :: (tI 15 x48) :: (K34m6 x_v22 x30 x_v12 m x_v20 p d x18 l z x_v21 aa a_lanes lanes c_lanes a_order order c_order)) gm dj fun kj gn => ?_
         obtain ⟨x56, ex56, a4⟩ := bnd a4
         obtain ⟨ic, ik, i3⟩ := idx_some ex56
         obtain ⟨bl, bs, ju, fm, ix, fs⟩ := hr_lanes.get (by decide) i3
         obtain rfl := ix
         have b5 := dj.addPlc (b := bl) (o := bs + (x30 : Int).toNat * 1) (cs := [.int .i64 x56]) (fun j c hj => fs j _ (map_get hj)) rfl (by kernel_rfl) (by kernel_rfl)
         refine D_index 6 (x30) [.int .i64 x56] (fun _ _ _ _ _ h => h) rfl rfl (rfl) rfl (by decide) (by kernel_rfl) (by kernel_rfl) gn dj.plOk (by rfl) (by rfl) (by rfl) fm (by rfl) ic ik (by kernel_rfl) fun ja (go : Kn 84 (K34e5 q s u x_v12 ab ac x_v22 a9 bg x48 bl bs x30) ((tP 56 4 0) :: (tI 55 x30) :: (tS 54 a_lanes lanes.length c_lanes) :: (tI 53 x52) :: (tI 15 x48) :: (K34m6 x_v22 x30 x_v12 m x_v20 p d x18 l z x_v21 aa a_lanes lanes c_lanes a_order order c_order)) ja) => ?_
         refine Dr [7, 8, 9] (dn 9) ((tB 59 (x52 == x56)) :: (tI 15 x48) :: (K34m6 x_v22 x30 x_v12 m x_v20 p d x18 l z x_v21 aa a_lanes lanes c_lanes a_order order c_order)) go b5 fun e9 em => ?_
         rcases Bool.eq_false_or_eq_true ((x52 == x56)) with ci | ci
         ·
          rw [ci, cond_true] at a4
          have gp : Kn 84 (K34e5 q s u x_v12 ab ac x_v22 a9 bg x48 bl bs x30) ((tB 59 true) :: (tI 15 x48) :: (K34m6 x_v22 x30 x_v12 m x_v20 p d x18 l z x_v21 aa a_lanes lanes c_lanes a_order order c_order)) e9 := (em.setB 59 true (by rfl) ci).kp
          refine Dr [10, 11] (dn 11) ((tI 61 x48) :: (tS 60 z x_v21.length aa) :: (tB 59 true) :: (tI 15 x48) :: (K34m6 x_v22 x30 x_v12 m x_v20 p d x18 l z x_v21 aa a_lanes lanes c_lanes a_order order c_order)) gp b5 fun kk en => ?_
          obtain ⟨eb, ep, iq, c1⟩ := b5.settle (i := 1) rfl
          replace a5 := a5.mono ep
          replace c1 : Mem ⟨w, h, noX⟩ eb (K34e5 q s u x_v12 ab ac x_v22 a9 bg x48 bl bs x30) [⟨(K34c2 ad y af ae ag), some 25⟩, ⟨[.int .i64 x30], none⟩, ⟨[.int .i64 x48], none⟩, ⟨[.int .i64 x52], none⟩, ⟨[.int .i64 x56], none⟩] (⟨m, x_v20.length, p, 22, 1, (famX fgL an x_v20), 0⟩ :: ⟨z, x_v21.length, aa, 3, 1, a7, (a7 : List Value).length⟩ :: an) (World.drew jn) := c1
          have io : RepS eb z aa x_v21 := ⟨_, a5, iq, b5.rowCap (i := 1) rfl⟩
          obtain ⟨x62, ex62, a4⟩ := bnd a4
          refine D_loud 12 rfl (by kernel_rfl) (by decide) (wantedS_sound en (by kernel_rfl)) fun K hK => ?_
          refine wc [.c (.slice z x_v21.length aa), .c (.int .i64 x48)] en c1 (ref_has_ok co c1.has x_v21 io x48 ex62) fun k5 jw la fh er dl => ?_
          replace a5 := a5.mono er
          obtain rfl := fh
          refine ⟨.one (.c (.bool x62)), rfl, fun jb (gq : Kn 84 (K34e5 q s u x_v12 ab ac x_v22 a9 bg x48 bl bs x30) ((tB 62 x62) :: (tI 61 x48) :: (tS 60 z x_v21.length aa) :: (tB 59 true) :: (tI 15 x48) :: (K34m6 x_v22 x30 x_v12 m x_v20 p d x18 l z x_v21 aa a_lanes lanes c_lanes a_order order c_order)) jb) => hK _ _ dl.plOk ?_⟩
          refine Dr [13, 14] (dn 14) ((tB 64 (!x62)) :: (tI 15 x48) :: (K34m6 x_v22 x30 x_v12 m x_v20 p d x18 l z x_v21 aa a_lanes lanes c_lanes a_order order c_order)) gq dl fun kl gr => ?_
          refine wpD_end (by kernel_rfl) ?_
          obtain rfl := Option.some.inj a4
          exact Exists.intro z ⟨aa, a7, ((a7 : List Value).length), _, _, rfl, ((gr.keep [15, 14, 13, 12, 11, 10, 9, 1, 2, 64] (by rfl)).cut 3 (by kernel_rfl)), (dl.cutPl 3 (by kernel_rfl)), (Heap.le_trans ep er), a5⟩
         ·
          rw [ci, cond_false] at a4
          have gs : Kn 84 (K34e5 q s u x_v12 ab ac x_v22 a9 bg x48 bl bs x30) ((tB 59 false) :: (tI 15 x48) :: (K34m6 x_v22 x30 x_v12 m x_v20 p d x18 l z x_v21 aa a_lanes lanes c_lanes a_order order c_order)) e9 := (em.setB 59 false (by rfl) ci).kp
          refine Dr [10, 11, 12, 13, 14] (dn 14) ((tB 64 false) :: (tI 15 x48) :: (K34m6 x_v22 x30 x_v12 m x_v20 p d x18 l z x_v21 aa a_lanes lanes c_lanes a_order order c_order)) gs b5 fun km gu => ?_
          refine wpD_end (by kernel_rfl) ?_
          obtain rfl := Option.some.inj a4
          exact Exists.intro z ⟨aa, a7, cd, _, _, rfl, ((gu.keep [15, 14, 13, 12, 11, 10, 9, 1, 2, 64] (by rfl)).cut 3 (by kernel_rfl)), (b5.cutPl 3 (by kernel_rfl)), (Heap.le_refl _), a5⟩
        ·
         rintro _ lb ⟨ak, al, au, bb, d1, aq, rfl, df, cl, dh, ee⟩
         replace ax := ax.mono dh
         refine wC (ai.2) df (fun c7 => ?_) (fun c7 => ?_)
         ·
          rw [cond_t c7] at ah
          refine wp_seq (wp_region_from (Rk 0 4 ((tI 68 x_v12) :: (tS 67 m x_v20.length p) :: (K34m8 x_v12 m x_v20 p x48 x_v22 x30 d x18 l ak ai al a_lanes lanes c_lanes a_order order c_order)) df cl fun kn gv => ?_))
          obtain ⟨x69, ex69, ah⟩ := bnd ah
          obtain ⟨ez, e1, e3⟩ := idx_some ex69
          have hu := lt_of_idx ez e1
          obtain ⟨ap, ed⟩ := row_addr cl (i := 0) rfl (b0 := 0 + (x_v12 : Int).toNat * 1) (famX_lt fgL_len (by decide) ax.len hu)
          have dm := cl.addPlc (b := ap) (o := 0 + (x_v12 : Int).toNat * 1) (cs := []) (fun j c hj => by simp at hj) rfl (by kernel_rfl) (by kernel_rfl)
          obtain ⟨bi, bn, cp, ei, ft⟩ := ax.get e3
          have fu : ∀ (e : Env) k c, ([.slice bi x69.length bn] : List SC)[k]? = some c → ((famX fgL an x_v20))[0 + (x_v12 : Int).toNat * 1 + k]? = some (c.den e) := fun e k c hk => famX_get fgL_len ei e3 k _ (map_get hk)
          refine R_index 4 (x_v12) rfl rfl (rfl) rfl (by decide) gv (by rfl) (by rfl) (by rfl) ed (by rfl) ez e1 (by kernel_rfl) fun jc (gw : Kn 84 (K34e3 q s u x_v12 ab ac x_v22 ap) ((tP 69 3 0) :: (tI 68 x_v12) :: (tS 67 m x_v20.length p) :: (K34m8 x_v12 m x_v20 p x48 x_v22 x30 d x18 l ak ai al a_lanes lanes c_lanes a_order order c_order)) jc) => ?_
          refine R_runk 5 2 [71, 70, 66, 65, 15, 14, 13, 12, 11, 10, 9, 1, 2] ((tI 71 x48) :: (tS 70 bi x69.length bn) :: (K34m8 x_v12 m x_v20 p x48 x_v22 x30 d x18 l ak ai al a_lanes lanes c_lanes a_order order c_order)) gw (PlOk.peek dm.plOk dm 0 3 rfl rfl ed [.slice bi x69.length bn] (fu _)) (by kernel_rfl) fun ko gx => ?_
          refine wl fun K hK => ?_
          refine wS 3 1 [.int .i64 x48] gx dm fun az jd jo (gy : Kn 84 (K34e3 q s u x_v12 ab ac x_v22 ap) ((tS 72 az 1 1) :: (tI 71 x48) :: (tS 70 bi x69.length bn) :: (K34m8 x_v12 m x_v20 p x48 x_v22 x30 d x18 l ak ai al a_lanes lanes c_lanes a_order order c_order)) jd) h1 => ?_
          have et : Mem ⟨w, h, noX⟩ aq (K34e3 q s u x_v12 ab ac x_v22 ap) [⟨(K34c2 ad y af ae ag), some 25⟩, ⟨[.int .i64 x30], none⟩, ⟨[.int .i64 x48], none⟩, ⟨[], none⟩] (⟨m, x_v20.length, p, 22, 1, (famX fgL an x_v20), 0⟩ :: ⟨ak, ai.1.length, al, 3, 1, au, bb⟩ :: ⟨az, 1, 1, 3, 1, ([.int .i64 x48] : List Value), 0⟩ :: an) jo := Mem.famIn [⟨m, x_v20.length, p, 22, 1, (famX fgL an x_v20), 0⟩, ⟨ak, ai.1.length, al, 3, 1, au, bb⟩] h1
          have c9 : Cells aq ([x48] : List Int) ([.int .i64 x48] : List Value) := ⟨_, _, rfl, (rep_int : rep aq (x48 : Int) _), rfl⟩
          refine hK _ _ ?_
          obtain ⟨x73, ex73, ah⟩ := bnd ah
          obtain ⟨du, hv⟩ := app_some ex73
          refine wl fun K hK => ?_
          refine wp_append (r := ⟨bi, x69.length, bn, 3, 1, cp, 0⟩) ((x_v12 : Int).toNat + 3) 8 1 _ (x73.length) _ ([.int .i64 x48] : List Value) gy et rfl rfl (by decide) (by exact ei) (by rfl) (by kernel_rfl) (by rfl) (by rfl) (Cells.len c9) (et.rowCell (i := 2) rfl) c9.one (by rw [du]; simp <;> omega) (by rw [du]; exact hv) (by decide) fun bj bo ff jf lc f1 (g0 : Kn 84 (K34e3 q s u x_v12 ab ac x_v22 ap) ((tS 73 bj x73.length bo) :: (tS 72 az 1 1) :: (tI 71 x48) :: (tS 70 bi x69.length bn) :: (K34m8 x_v12 m x_v20 p x48 x_v22 x30 d x18 l ak ai al a_lanes lanes c_lanes a_order order c_order)) jf) eu => ?_
          have fv : Cells aq x73 (cp ++ ([.int .i64 x48] : List Value)) := by rw [du]; exact Cells.append ft c9
          obtain rfl : ff = 0 := Nat.le_zero.1 f1
          refine hK _ _ ?_
          obtain ⟨x74, ex74, ah⟩ := bnd ah
          obtain ⟨e0, e2, dx⟩ := idx_some ex74
          have cz := lt_of_idx e0 e2
          obtain ⟨ay, cg⟩ := row_addr eu (i := 0) rfl (b0 := 0 + (x_v12 : Int).toNat * 1) (famX_lt fgL_len (by decide) ax.len cz)
          have h2 := eu.addPlc (b := ay) (o := 0 + (x_v12 : Int).toNat * 1) (cs := []) (fun j c hj => by simp at hj) rfl (by kernel_rfl) (by kernel_rfl)
          obtain ⟨fc, fd, k6, ej, jx⟩ := ax.get dx
          have jy : ∀ (e : Env) k c, ([.slice fc x74.length fd] : List SC)[k]? = some c → ((famX fgL an x_v20))[0 + (x_v12 : Int).toNat * 1 + k]? = some (c.den e) := fun e k c hk => famX_get fgL_len ej dx k _ (map_get hk)
          refine R_index 9 (x_v12) rfl rfl (rfl) rfl (by decide) g0 (by rfl) (by rfl) (by rfl) cg (by rfl) e0 e2 (by kernel_rfl) fun d2 (g1 : Kn 84 (K34e4 q s u x_v12 ab ac x_v22 ap ay) ((tP 74 4 0) :: (tS 73 bj x73.length bo) :: (tS 72 az 1 1) :: (tI 71 x48) :: (tS 70 bi x69.length bn) :: (K34m8 x_v12 m x_v20 p x48 x_v22 x30 d x18 l ak ai al a_lanes lanes c_lanes a_order order c_order)) d2) => ?_
          obtain ⟨am, fe, ah⟩ := bnd ah
          obtain ⟨j6, j7, c4⟩ := upd_some fe
          refine wl fun K hK => ?_
          refine wp_storeRow 0 4 0 (0 + (x_v12 : Int).toNat * 1) (.c (.slice bj x73.length bo)) g1 h2 rfl rfl (by rfl) (by rfl) rfl rfl cg rfl (by kernel_rfl) (famX_fit fgL_len ax.len cz (Nat.le_of_ble_eq_true rfl)) fun fa g3 h3 => ?_
          have iy : ((famX fgL an x_v20).take (0 + (x_v12 : Int).toNat * 1 + 0) ++ ([.slice bj x73.length bo] : List Value) ++ (famX fgL an x_v20).drop (0 + (x_v12 : Int).toNat * 1 + 0 + 1)) = (famX fgL (List.set an (x_v12 : Int).toNat ⟨bj, x73.length, bo, 3, 1, (cp ++ ([.int .i64 x48] : List Value)), 0⟩) am) := by rw [c4]; exact famX_set (r' := ⟨bj, x73.length, bo, 3, 1, (cp ++ ([.int .i64 x48] : List Value)), 0⟩) fgL_len ej dx rfl (Nat.le_of_ble_eq_true rfl)
          have dt : x_v20.length = am.length := by rw [c4]; simp
          obtain ⟨bp, eg, h4⟩ : ∃ f, SFam prL 3 1 aq f am ∧ Mem ⟨w, h, noX⟩ aq [(q, 0), (s, u + (x_v12 : Int).toNat * 1), (ab, ac + (x_v22 : Int).toNat * 1), (ap, 0 + (x_v12 : Int).toNat * 1), (ay, 0 + (x_v12 : Int).toNat * 1)] [⟨[.slice ad y.room.length af, .slice ae y.buses.length ag, .int .i64 y.broken], some 25⟩, ⟨[.int .i64 x30], none⟩, ⟨[.int .i64 x48], none⟩, ⟨[], none⟩, ⟨[], none⟩] (⟨m, x_v20.length, p, 22, 1, (famX fgL f am), 0⟩ :: ⟨ak, ai.1.length, al, 3, 1, au, bb⟩ :: ⟨az, 1, 1, 3, 1, ([.int .i64 x48] : List Value), 0⟩ :: f) fa := ⟨(List.set an (x_v12 : Int).toNat ⟨bj, x73.length, bo, 3, 1, (cp ++ ([.int .i64 x48] : List Value)), 0⟩), (by rw [c4]; exact ax.set ⟨rfl, rfl, rfl, rfl, fv⟩), by rw [← iy]; exact h3⟩
          have g4 : Kn 84 [(q, 0), (s, u + (x_v12 : Int).toNat * 1), (ab, ac + (x_v22 : Int).toNat * 1), (ap, 0 + (x_v12 : Int).toNat * 1), (ay, 0 + (x_v12 : Int).toNat * 1)] [(74, .one (.c (.ptr 4 0))), (73, .one (.c (.slice bj x73.length bo))), (72, .one (.c (.slice az 1 1))), (71, .one (.c (.int .i64 x48))), (70, .one (.c (.slice bi x69.length bn))), (66, .one (.c (.int .i64 x_v12))), (65, .one (.c (.slice m am.length p))), (15, .one (.c (.int .i64 x48))), (14, .one (.c (.int .i64 x_v22))), (13, .one (.c (.int .i64 x30))), (12, .one (.c (.int .i64 x_v12))), (11, .one (.c (.slice m am.length p))), (10, .one (.c (.slice d x18.length l))), (9, .one (.c (.slice ak ai.1.length al))), (1, .one (.c (.slice a_lanes lanes.length c_lanes))), (2, .one (.c (.slice a_order order.length c_order)))] d2 := by rw [← dt]; exact g3
          have dp : Mem ⟨w, h, noX⟩ aq [(q, 0), (s, u + (x_v12 : Int).toNat * 1), (ab, ac + (x_v22 : Int).toNat * 1), (ap, 0 + (x_v12 : Int).toNat * 1), (ay, 0 + (x_v12 : Int).toNat * 1)] [⟨[.slice ad y.room.length af, .slice ae y.buses.length ag, .int .i64 y.broken], some 25⟩, ⟨[.int .i64 x30], none⟩, ⟨[.int .i64 x48], none⟩, ⟨[], none⟩, ⟨[], none⟩] (⟨m, am.length, p, 22, 1, (famX fgL bp am), 0⟩ :: ⟨ak, ai.1.length, al, 3, 1, au, bb⟩ :: ⟨az, 1, 1, 3, 1, ([.int .i64 x48] : List Value), 0⟩ :: bp) fa := by rw [← dt]; exact h4
          have j3 : (x_v12 : Int).toNat < am.length := by rw [← dt]; exact cz
          have e4 : am[(x_v12 : Int).toNat]? = some x73 := by rw [c4]; exact List.getElem?_set_self cz
          obtain ⟨cr, cv, k7, f4, jz⟩ := eg.get e4
          have da : ∀ (e : Env) k c, ([.slice cr x73.length cv] : List SC)[k]? = some c → ((famX fgL bp am))[0 + (x_v12 : Int).toNat * 1 + k]? = some (c.den e) := fun e k c hk => famX_get fgL_len f4 e4 k _ (map_get hk)
          refine hK _ _ ?_
          have g6 : Kn 84 (K34e4 q s u x_v12 ab ac x_v22 ap ay) ((tI 15 x48) :: (tI 14 x_v22) :: (tI 13 x30) :: (tI 12 x_v12) :: (tS 11 m am.length p) :: (tS 10 d x18.length l) :: (tS 9 ak ai.1.length al) :: (K34m7 a_lanes lanes c_lanes a_order order c_order)) d2 := g4.kp
          refine wf (wp_region_from (R_runk 0 2 [76, 75, 14, 13, 12, 11, 10, 1, 2] ((tI 76 x48) :: (tS 75 ak ai.1.length al) :: (tI 14 x_v22) :: (tI 13 x30) :: (tI 12 x_v12) :: (tS 11 m am.length p) :: (tS 10 d x18.length l) :: (K34m7 a_lanes lanes c_lanes a_order order c_order)) g6 (PlOk.peek dp.plOk dp 0 4 rfl rfl cg [.slice cr x73.length cv] (da _)) (by kernel_rfl) fun ks g7 => ?_))
          refine wl fun K hK => ?_
          refine wS 3 1 [.int .i64 x48] g7 dp fun ct jg jp (g8 : Kn 84 (K34e4 q s u x_v12 ab ac x_v22 ap ay) ((tS 77 ct 1 1) :: (tI 76 x48) :: (tS 75 ak ai.1.length al) :: (tI 14 x_v22) :: (tI 13 x30) :: (tI 12 x_v12) :: (tS 11 m am.length p) :: (tS 10 d x18.length l) :: (K34m7 a_lanes lanes c_lanes a_order order c_order)) jg) h5 => ?_
          have ev : Mem ⟨w, h, noX⟩ aq (K34e4 q s u x_v12 ab ac x_v22 ap ay) [⟨(K34c2 ad y af ae ag), some 25⟩, ⟨[.int .i64 x30], none⟩, ⟨[.int .i64 x48], none⟩, ⟨[], none⟩, ⟨[], none⟩] (⟨m, am.length, p, 22, 1, (famX fgL bp am), 0⟩ :: ⟨ak, ai.1.length, al, 3, 1, au, bb⟩ :: ⟨az, 1, 1, 3, 1, ([.int .i64 x48] : List Value), 0⟩ :: ⟨ct, 1, 1, 3, 1, ([.int .i64 x48] : List Value), 0⟩ :: bp) jp := Mem.famIn [⟨m, am.length, p, 22, 1, (famX fgL bp am), 0⟩, ⟨ak, ai.1.length, al, 3, 1, au, bb⟩, ⟨az, 1, 1, 3, 1, ([.int .i64 x48] : List Value), 0⟩] h5
          have db : Cells aq ([x48] : List Int) ([.int .i64 x48] : List Value) := ⟨_, _, rfl, (rep_int : rep aq (x48 : Int) _), rfl⟩
          refine hK _ _ ?_
          obtain ⟨x78, ex78, ah⟩ := bnd ah
          obtain ⟨dv, hw⟩ := app_some ex78
          refine wl fun K hK => ?_
          refine wp_append 1 8 1 _ (x78.length) _ ([.int .i64 x48] : List Value) g8 ev rfl rfl (by decide) rfl (by rfl) (by kernel_rfl) (by rfl) (by rfl) (Cells.len db) (ev.rowCell (i := 3) rfl) db.one (by rw [dv]; simp <;> omega) (by rw [dv]; exact hw) (by decide) fun b7 ca d9 jh ld j1 (g9 : Kn 84 (K34e4 q s u x_v12 ab ac x_v22 ap ay) ((tS 78 b7 x78.length ca) :: (tS 77 ct 1 1) :: (tI 76 x48) :: (tS 75 ak ai.1.length al) :: (tI 14 x_v22) :: (tI 13 x30) :: (tI 12 x_v12) :: (tS 11 m am.length p) :: (tS 10 d x18.length l) :: (K34m7 a_lanes lanes c_lanes a_order order c_order)) jh) cm => ?_
          have fw : Cells aq x78 (au ++ ([.int .i64 x48] : List Value)) := by rw [dv]; exact Cells.append ee db
          refine hK _ _ ?_
          refine R_runk 4 1 [9, 14, 13, 12, 11, 10, 1, 2] ((tS 9 b7 x78.length ca) :: (tI 14 x_v22) :: (tI 13 x30) :: (tI 12 x_v12) :: (tS 11 m am.length p) :: (tS 10 d x18.length l) :: (K34m7 a_lanes lanes c_lanes a_order order c_order)) g9 (PlOk.peek cm.plOk cm 0 4 rfl rfl cg [.slice cr x73.length cv] (da _)) (by kernel_rfl) fun kt ha => ?_
          refine wf (wp_region_from (R_runk 0 3 [14, 9, 13, 12, 11, 10, 1, 2] ((tI 14 (IntKind.i64.wrap (x_v22 + 1))) :: (tS 9 b7 x78.length ca) :: (tI 13 x30) :: (tI 12 x_v12) :: (tS 11 m am.length p) :: (tS 10 d x18.length l) :: (K34m7 a_lanes lanes c_lanes a_order order c_order)) ha (PlOk.peek cm.plOk cm 0 4 rfl rfl cg [.slice cr x73.length cv] (da _)) (by kernel_rfl) fun ku hb => ?_))
          refine wf ?_
          exact Exists.intro co ⟨Nat.lt_succ_self _, Exists.intro am ⟨x78, (IntKind.i64.wrap (x_v22 + 1)), m, p, bp, b7, ca, (au ++ ([.int .i64 x48] : List Value)), d9, _, _, rfl, ((hb.keep [14, 13, 12, 11, 10, 9, 1, 2] (by rfl)).cut 2 (by kernel_rfl)), ((Mem.famCut [⟨m, am.length, p, 22, 1, (famX fgL bp am), 0⟩, ⟨b7, x78.length, ca, 3, 1, (au ++ ([.int .i64 x48] : List Value)), d9⟩] [⟨az, 1, 1, 3, 1, ([.int .i64 x48] : List Value), 0⟩, ⟨ct, 1, 1, 3, 1, ([.int .i64 x48] : List Value), 0⟩] cm).cutPl 2 (by kernel_rfl)), (Heap.le_trans br (Heap.le_trans a6 dh)), eg, fw, ah⟩⟩
         ·
          rw [cond_f c7] at ah
          refine wp_skip (wp_region_from (Rk 0 3 ((tI 14 (IntKind.i64.wrap (x_v22 + 1))) :: (tI 13 x30) :: (tI 12 x_v12) :: (tS 11 m x_v20.length p) :: (tS 10 d x18.length l) :: (tS 9 ak ai.1.length al) :: (K34m7 a_lanes lanes c_lanes a_order order c_order)) df cl fun kv hc => ?_))
          refine wf ?_
          exact Exists.intro co ⟨Nat.lt_succ_self _, Exists.intro x_v20 ⟨ai.1, (IntKind.i64.wrap (x_v22 + 1)), m, p, an, ak, al, au, bb, _, _, rfl, ((hc.keep [14, 13, 12, 11, 10, 9, 1, 2] (by rfl)).cut 2 (by kernel_rfl)), (cl.cutPl 2 (by kernel_rfl)), (Heap.le_trans br (Heap.le_trans a6 dh)), ax, ee, ah⟩⟩
       ·
        rw [cond_f c6] at ah
        refine wp_exit ?_
        obtain rfl := Option.some.inj ah
        exact Exists.intro m ⟨p, an, z, aa, a7, cd, _, _, rfl, de.kp, di, (Heap.le_trans br a6), ax, a5⟩
    ·
     rintro _ lf ⟨av, aw, bc, bh, bm, bt, cw, dy, bd, rfl, hd, ew, hz, f0, fo⟩
     refine wp_region_from (Rk 0 2 ((tI 80 x30) :: (tS 79 bh aj.2.length bm) :: (tI 12 x_v12) :: (tS 11 av aj.1.length aw) :: (tS 10 d x18.length l) :: (K34m7 a_lanes lanes c_lanes a_order order c_order)) hd ew fun kw he => ?_)
     refine wl fun K hK => ?_
     refine wS 3 1 [.int .i64 x30] he ew fun cu ji jq (hf : Kn 84 (K34e1 q s u x_v12) ((tS 81 cu 1 1) :: (tI 80 x30) :: (tS 79 bh aj.2.length bm) :: (tI 12 x_v12) :: (tS 11 av aj.1.length aw) :: (tS 10 d x18.length l) :: (K34m7 a_lanes lanes c_lanes a_order order c_order)) ji) h6 => ?_
     have ex : Mem ⟨w, h, noX⟩ bd (K34e1 q s u x_v12) [⟨(K34c2 ad y af ae ag), some 25⟩, ⟨[.int .i64 x30], none⟩] (⟨av, aj.1.length, aw, 22, 1, (famX fgL bc aj.1), 0⟩ :: ⟨bh, aj.2.length, bm, 3, 1, bt, cw⟩ :: ⟨cu, 1, 1, 3, 1, ([.int .i64 x30] : List Value), 0⟩ :: bc) jq := Mem.famIn [⟨av, aj.1.length, aw, 22, 1, (famX fgL bc aj.1), 0⟩, ⟨bh, aj.2.length, bm, 3, 1, bt, cw⟩] h6
     have dc : Cells bd ([x30] : List Int) ([.int .i64 x30] : List Value) := ⟨_, _, rfl, (rep_int : rep bd (x30 : Int) _), rfl⟩
     refine hK _ _ ?_
     obtain ⟨x82, ex82, ar⟩ := bnd ar
     obtain ⟨dw, hy⟩ := app_some ex82
     refine wl fun K hK => ?_
     refine wp_append 1 8 1 _ (x82.length) _ ([.int .i64 x30] : List Value) hf ex rfl rfl (by decide) rfl (by rfl) (by kernel_rfl) (by rfl) (by rfl) (Cells.len dc) (ex.rowCell (i := 2) rfl) dc.one (by rw [dw]; simp <;> omega) (by rw [dw]; exact hy) (by decide) fun b8 cb ea jj lg j2 (hg : Kn 84 (K34e1 q s u x_v12) ((tS 82 b8 x82.length cb) :: (tS 81 cu 1 1) :: (tI 80 x30) :: (tS 79 bh aj.2.length bm) :: (tI 12 x_v12) :: (tS 11 av aj.1.length aw) :: (tS 10 d x18.length l) :: (K34m7 a_lanes lanes c_lanes a_order order c_order)) jj) dq => ?_
     have fx : Cells bd x82 (bt ++ ([.int .i64 x30] : List Value)) := by rw [dw]; exact Cells.append fo dc
     refine hK _ _ ?_
     refine Rk 4 1 ((tS 9 b8 x82.length cb) :: (tI 12 x_v12) :: (tS 11 av aj.1.length aw) :: (tS 10 d x18.length l) :: (K34m7 a_lanes lanes c_lanes a_order order c_order)) hg dq fun kx hi => ?_
     refine wf (wp_region_from (Rk 0 3 ((tI 12 (IntKind.i64.wrap (x_v12 + 1))) :: (tS 9 b8 x82.length cb) :: (tS 11 av aj.1.length aw) :: (tS 10 d x18.length l) :: (K34m7 a_lanes lanes c_lanes a_order order c_order)) hi dq fun ky hl => ?_))
     refine wf ?_
     exact Exists.intro c5 ⟨Nat.lt_succ_self _, Exists.intro aj.1 ⟨x82, (IntKind.i64.wrap (x_v12 + 1)), av, aw, bc, b8, cb, (bt ++ ([.int .i64 x30] : List Value)), ea, _, _, rfl, ((hl.keep [12, 11, 10, 9, 1, 2] (by rfl)).cut 1 (by kernel_rfl)), ((Mem.famCut [⟨av, aj.1.length, aw, 22, 1, (famX fgL bc aj.1), 0⟩, ⟨b8, x82.length, cb, 3, 1, (bt ++ ([.int .i64 x30] : List Value)), ea⟩] [⟨cu, 1, 1, 3, 1, ([.int .i64 x30] : List Value), 0⟩] dq).cutPl 1 (by kernel_rfl)), (Heap.le_trans bv hz), f0, fx, ar⟩⟩
   ·
    rw [c8, cond_false] at ar
    refine wp_exit ?_
    obtain rfl := Option.some.inj ar
    exact Exists.intro a0 ⟨a2, b1, a1, a3, cq, cx, _, _, rfl, dg.kp, c3, bv, eh, ef⟩
 ·
  rintro _ fb ⟨a8, ba, bq, b9, cc, b6, ce, d3, cf, rfl, hn, ey, j4, f3, j0⟩
  refine wp_seq (wp_region_from (Rk 0 2 [(tS 8 a8 ao.1.length ba)] hn ey fun kz ho => ?_))
  refine wf (wp_ret ?_)
  obtain ⟨fi, j5, c2, dd⟩ := SFam.settleAll [⟨a8, ao.1.length, ba, 22, 1, (famX fgL bq ao.1), 0⟩, ⟨b9, ao.2.length, cc, 3, 1, b6, ce⟩] f3 fgL_rep ey
  replace c2 : Mem ⟨w, h, noX⟩ fi [(q, 0)] [⟨(K34c2 ad y af ae ag), some 25⟩] [⟨a8, ao.1.length, ba, 22, 1, (famX fgL bq ao.1), 0⟩, ⟨b9, ao.2.length, cc, 3, 1, b6, ce⟩] fb := c2
  obtain ⟨ec, h0, ir, dr⟩ := c2.settle (i := 0) rfl
  replace dd := dd.mono h0
  replace dr : Mem ⟨w, h, noX⟩ ec [(q, 0)] [⟨(K34c2 ad y af ae ag), some 25⟩] [⟨a8, ao.1.length, ba, 22, 1, (famX fgL bq ao.1), ((famX fgL bq ao.1) : List Value).length⟩, ⟨b9, ao.2.length, cc, 3, 1, b6, ce⟩] fb := dr
  have ip : RepS ec a8 ba ao.1 := ⟨_, dd, ir, c2.rowCap (i := 0) rfl⟩
  obtain rfl := Option.some.inj H
  exact rt (.one (.c (.slice a8 ao.1.length ba))) ho dr ⟨_, _, rfl, ip⟩
abbrev K21c1 (g : Option Addr) (y : Yard) (l : Nat) (k : Option Addr) (m : Nat) : List SC := [.slice g y.room.length l, .slice k y.buses.length m, .int .i64 y.broken]
abbrev K21m2 (d : Option Addr) (x_v20 : List Int) (e : Nat) : TM := [(tS 9 d x_v20.length e), (tP 4 0 0)]
set_option maxRecDepth 100000 in
set_option maxHeartbeats 4000000 in
theorem ref_Shunts_ok (n : Nat) {h : Heap} {w : World} (hh : Has h w) (y : Yard) {cs_y : List Value} (hx_y : rep h y cs_y) (lanes : List Int) {a_lanes : Option Addr} {c_lanes : Nat} (hr_lanes : RepS h a_lanes c_lanes lanes) (order : List Int) {a_order : Option Addr} {c_order : Nat} (hr_order : RepS h a_order c_order order) (broken : List Int) {a_broken : Option Addr} {c_broken : Nat} (hr_broken : RepS h a_broken c_broken broken) {r : List Int} (H : ref_Shunts n y lanes order broken = some r) :
  Calls Try.prog 21 #[.agg cs_y.toArray, .slice a_lanes lanes.length c_lanes, .slice a_order order.length c_order, .slice a_broken broken.length c_broken] w (Ret (fun h v => ∃ a c, v = .slice a r.length c ∧ RepS h a c r) h w) := by
 obtain ⟨_, _, rfl, ⟨g, l, rfl, aj⟩, ⟨_, _, rfl, ⟨k, m, rfl, ak⟩, rfl⟩⟩ := hx_y
 refine enter 46 [.agg (K21c1 g y l k m), .c (.slice a_lanes lanes.length c_lanes), .c (.slice a_order order.length c_order), .c (.slice a_broken broken.length c_broken)] Try.func21 rfl rfl rfl rfl fun t hk => ?_
 have hm := Mem.begin h w hh
 unfold ref_Shunts at H
 refine wp_seq (wp_region_from (wl fun K hK => ?_))
 refine wb (.agg (K21c1 g y l k m)) hk hm fun f ed fb (c0 : Kn 46 [(f, 0)] [(tP 4 0 0), (tA 0 (K21c1 g y l k m)), (tS 1 a_lanes lanes.length c_lanes), (tS 2 a_order order.length c_order), (tS 3 a_broken broken.length c_broken)] ed) aw => hK _ _ ?_
 refine Rk 1 1 [(tP 4 0 0), (tS 1 a_lanes lanes.length c_lanes), (tS 2 a_order order.length c_order), (tS 3 a_broken broken.length c_broken)] c0 aw fun en c2 => ?_
 refine wf (wp_seq (wp_region_from (Rk 0 2 [(tS 10 none 0 0), (tS 9 none 0 0), (tP 4 0 0), (tS 1 a_lanes lanes.length c_lanes), (tS 2 a_order order.length c_order), (tS 3 a_broken broken.length c_broken)] c2 aw fun ep c5 => ?_)))
 refine wf (wp_seq (wp_region_from (Rk 0 4 [(tS 17 a_broken broken.length c_broken), (tS 16 a_order order.length c_order), (tS 15 a_lanes lanes.length c_lanes), (tA 14 (K21c1 g y l k m)), (tS 10 none 0 0), (tS 9 none 0 0), (tP 4 0 0)] c5 aw fun et c9 => ?_)))
 obtain ⟨x18, ex18, H⟩ := bnd H
 refine wl fun K hK => ?_
 refine wc [.agg (K21c1 g y l k m), .c (.slice a_lanes lanes.length c_lanes), .c (.slice a_order order.length c_order), .c (.slice a_broken broken.length c_broken)] c9 aw (ref_Morning_ok n aw.has y ((rep_pair (rep_slice aj) (rep_pair (rep_slice ak) rep_int)) : rep h y _) lanes hr_lanes order hr_order broken hr_broken ex18) fun e6 a5 eh cp ci bx => ?_
 replace aj := aj.mono ci
 replace ak := ak.mono ci
 obtain ⟨q, u, rfl, b1⟩ := cp
 refine ⟨.one (.c (.slice q x18.length u)), rfl, fun eb (dg : Kn 46 [(f, 0)] [(tS 18 q x18.length u), (tS 17 a_broken broken.length c_broken), (tS 16 a_order order.length c_order), (tS 15 a_lanes lanes.length c_lanes), (tA 14 (K21c1 g y l k m)), (tS 10 none 0 0), (tS 9 none 0 0), (tP 4 0 0)] eb) => hK _ _ ?_⟩
 refine Rk 5 1 [(tS 11 q x18.length u), (tS 10 none 0 0), (tS 9 none 0 0), (tP 4 0 0)] dg bx fun ey dh => ?_
 refine wf (wp_seq (wp_seq (wp_region_from (Rk 0 1 [(tI 12 0), (tS 11 q x18.length u), (tS 10 none 0 0), (tS 9 none 0 0), (tP 4 0 0)] dh bx fun ez di => ?_))))
 refine wf ?_
 have dw : Mem ⟨w, h, noX⟩ a5 [(f, 0)] [⟨(K21c1 g y l k m), some 25⟩] [⟨none, 0, 0, 3, 1, [], 0⟩] eh := bx.nilRow 3 1
 have cu : Cells a5 ([] : List Int) [] := Cells.nil
 obtain ⟨al, cd, H⟩ := bnd H
 refine wp_mid' (fun a' w' => ∃ (am : Option Addr) (an : Nat) (a0 : List Value) (b8 : Array Value) (ae : Heap), a' = ⟨b8, []⟩ ∧ Kn 46 [(f, 0)] [(tS 10 none 0 0), (tS 9 am al.length an), (tP 4 0 0)] b8 ∧ Mem ⟨w, h, noX⟩ ae [(f, 0)] [⟨(K21c1 g y l k m), some 25⟩] [⟨am, al.length, an, 3, 1, a0, 0⟩] w' ∧ Heap.le a5 ae ∧ Cells ae al a0) ?_ ?_
 ·
  refine wp_block ?_
  refine wp_loop_n (fun d8 a' w' => ∃ (x_v10 : List Int) (x_v11 : Int) (ac : Option Addr) (ad : Nat) (ao : List Value) (b9 : Array Value) (ar : Heap), a' = ⟨b9, []⟩ ∧ Kn 46 [(f, 0)] [(tI 12 x_v11), (tS 11 q x18.length u), (tS 10 none 0 0), (tS 9 ac x_v10.length ad), (tP 4 0 0)] b9 ∧ Mem ⟨w, h, noX⟩ ar [(f, 0)] [⟨(K21c1 g y l k m), some 25⟩] [⟨ac, x_v10.length, ad, 3, 1, ao, 0⟩] w' ∧ Heap.le a5 ar ∧ Cells ar x_v10 ao ∧ ref_Shunts_l1 d8 x18 x_v10 x_v11 = some al) n ?_ ?_
  ·
   exact Exists.intro ([] : List Int) ⟨0, none, 0, ([]), _, _, rfl, di.kp, dw, (Heap.le_refl _), cu, cd⟩
  ·
   rintro b4 _ fa ⟨x_v10, x_v11, ac, ad, ao, b9, ar, rfl, dj, bb, bt, cg, z⟩
   clear cd
   obtain _ | b4 := b4
   ·
    rw [ref_Shunts_l1] at z; cases z
   rw [ref_Shunts_l1] at z
   replace b1 := b1.mono bt
   refine wp_seq (wp_seq (wp_region_from (Rk 0 4 [(tB 22 (decide (x_v11 < ((x18.length : Nat) : Int)))), (tI 12 x_v11), (tS 11 q x18.length u), (tS 10 none 0 0), (tS 9 ac x_v10.length ad), (tP 4 0 0)] dj bb fun e0 bs => ?_)))
   refine wf (wC (decide (x_v11 < ((x18.length : Nat) : Int))) bs (fun bn => ?_) (fun bn => ?_))
   ·
    rw [bn, cond_true] at z
    refine wp_skip (wp_seq (wp_block (wp_region_from (Rk 0 3 [(tI 27 x_v11), (tS 26 q x18.length u), (tS 25 ac x_v10.length ad), (tI 12 x_v11), (tS 11 q x18.length u), (tS 10 none 0 0), (tP 4 0 0)] bs bb fun e1 dk => ?_))))
    obtain ⟨x28, ex28, z⟩ := bnd z
    obtain ⟨dx, dy, d6⟩ := idx_some ex28
    obtain ⟨bf, b5, ej, cq, d5, cw⟩ := b1.get (by decide) d6
    obtain ⟨be, bh, rfl, d1⟩ := d5
    have bz := bb.addPlc (b := bf) (o := b5 + (x_v11 : Int).toNat * 1) (cs := [.slice be x28.length bh]) (fun j c hj => cw j _ (map_get hj)) rfl (by kernel_rfl) (by kernel_rfl)
    refine R_index 3 (x_v11) rfl rfl (rfl) rfl (by decide) dk (by rfl) (by rfl) (by rfl) cq (by rfl) dx dy (by kernel_rfl) fun ec (dl : Kn 46 [(f, 0), (bf, b5 + (x_v11 : Int).toNat * 1)] [(tP 28 1 0), (tI 27 x_v11), (tS 26 q x18.length u), (tS 25 ac x_v10.length ad), (tI 12 x_v11), (tS 11 q x18.length u), (tS 10 none 0 0), (tP 4 0 0)] ec) => ?_
    refine Rk 4 1 [(tS 29 be x28.length bh), (tS 25 ac x_v10.length ad), (tI 12 x_v11), (tS 11 q x18.length u), (tS 10 none 0 0), (tP 4 0 0)] dl bz fun e2 dm => ?_
    obtain ⟨ca, a6, d4, _⟩ := id d1
    obtain ⟨x30, ex30, z⟩ := bnd z
    obtain ⟨b3, dt⟩ := app_some ex30
    refine wl fun K hK => ?_
    refine wp_append 0 8 x28.length _ (x30.length) _ ca dm bz rfl rfl (by decide) rfl (by rfl) (by kernel_rfl) (by rfl) (by rfl) (Cells.len a6) (d4.cell bz.has a6.one) a6.one (by rw [b3]; simp <;> omega) (by rw [b3]; exact dt) (by decide) fun a2 a4 cn ee fc cz (dn : Kn 46 [(f, 0), (bf, b5 + (x_v11 : Int).toNat * 1)] [(tS 30 a2 x30.length a4), (tS 29 be x28.length bh), (tS 25 ac x_v10.length ad), (tI 12 x_v11), (tS 11 q x18.length u), (tS 10 none 0 0), (tP 4 0 0)] ee) b0 => ?_
    have cx : Cells ar x30 (ao ++ ca) := by rw [b3]; exact Cells.append cg a6
    obtain rfl : cn = 0 := Nat.le_zero.1 cz
    refine hK _ _ ?_
    refine Rk 6 1 [(tS 9 a2 x30.length a4), (tI 12 x_v11), (tS 11 q x18.length u), (tS 10 none 0 0), (tP 4 0 0)] dn b0 fun e3 dp => ?_
    refine wf (wp_region_from (Rk 0 3 [(tI 12 (IntKind.i64.wrap (x_v11 + 1))), (tS 9 a2 x30.length a4), (tS 11 q x18.length u), (tS 10 none 0 0), (tP 4 0 0)] dp b0 fun e4 dq => ?_))
    refine wf ?_
    exact Exists.intro b4 ⟨Nat.lt_succ_self _, Exists.intro x30 ⟨(IntKind.i64.wrap (x_v11 + 1)), a2, a4, (ao ++ ca), _, _, rfl, ((dq.keep [12, 11, 10, 9, 4] (by rfl)).cut 1 (by kernel_rfl)), (b0.cutPl 1 (by kernel_rfl)), bt, cx, z⟩⟩
   ·
    rw [bn, cond_false] at z
    refine wp_exit ?_
    obtain rfl := Option.some.inj z
    exact Exists.intro ac ⟨ad, ao, _, _, rfl, bs.kp, bb, bt, cg⟩
 ·
  rintro _ ei ⟨am, an, a0, b8, ae, rfl, dr, cj, ch, cv⟩
  replace aj := aj.mono ch
  replace ak := ak.mono ch
  refine wp_seq (wp_seq (wp_region_from (Rk 0 1 [(tI 13 0), (tS 10 none 0 0), (tS 9 am al.length an), (tP 4 0 0)] dr cj fun em c1 => ?_)))
  refine wf ?_
  have dv : Mem ⟨w, h, noX⟩ ae [(f, 0)] [⟨(K21c1 g y l k m), some 25⟩] [⟨am, al.length, an, 3, 1, a0, 0⟩, ⟨none, 0, 0, 3, 1, [], 0⟩] ei := cj.nilRow 3 1
  have cr : Cells ae ([] : List Int) [] := Cells.nil
  obtain ⟨aa, cc, H⟩ := bnd H
  refine wp_mid' (fun a' w' => ∃ (bd : Option Addr) (bg : Nat) (bc : List Value) (bj : Nat) (ah : Option Addr) (ai : Nat) (az : List Value) (b6 : Array Value) (ap : Heap), a' = ⟨b6, []⟩ ∧ Kn 46 [(f, 0)] [(tS 10 ah aa.2.length ai)] b6 ∧ Mem ⟨w, h, noX⟩ ap [(f, 0)] [⟨(K21c1 g y l k m), some 25⟩] [⟨bd, aa.1.length, bg, 3, 1, bc, bj⟩, ⟨ah, aa.2.length, ai, 3, 1, az, 0⟩] w' ∧ Heap.le ae ap ∧ Cells ap aa.1 bc ∧ Cells ap aa.2 az) ?_ ?_
  ·
   refine wp_block ?_
   refine wp_loop_n (fun d7 a' w' => ∃ (x_v20 : List Int) (x_v21 : List Int) (x_v22 : Int) (d : Option Addr) (e : Nat) (ab : List Value) (bi : Nat) (p : Option Addr) (s : Nat) (ag : List Value) (b7 : Array Value) (aq : Heap), a' = ⟨b7, []⟩ ∧ Kn 46 [(f, 0)] ((tI 13 x_v22) :: (tS 10 p x_v21.length s) :: (K21m2 d x_v20 e)) b7 ∧ Mem ⟨w, h, noX⟩ aq [(f, 0)] [⟨(K21c1 g y l k m), some 25⟩] [⟨d, x_v20.length, e, 3, 1, ab, bi⟩, ⟨p, x_v21.length, s, 3, 1, ag, 0⟩] w' ∧ Heap.le ae aq ∧ Cells aq x_v20 ab ∧ Cells aq x_v21 ag ∧ ref_Shunts_l2 d7 y x_v20 x_v21 x_v22 = some aa) n ?_ ?_
   ·
    exact Exists.intro al ⟨([] : List Int), 0, am, an, a0, 0, none, 0, ([]), _, _, rfl, c1.kp, dv, (Heap.le_refl _), cv, cr, cc⟩
   ·
    rintro ay _ ef ⟨x_v20, x_v21, x_v22, d, e, ab, bi, p, s, ag, b7, aq, rfl, c3, ax, av, af, au, x⟩
    clear cc
    obtain _ | ay := ay
    ·
     rw [ref_Shunts_l2] at x; cases x
    rw [ref_Shunts_l2] at x
    replace aj := aj.mono av
    replace ak := ak.mono av
    refine wp_seq (wp_seq (wp_region_from (Rk 0 5 ((tB 35 (decide (x_v22 < ((y.buses.length : Nat) : Int)))) :: (tI 13 x_v22) :: (tS 10 p x_v21.length s) :: (K21m2 d x_v20 e)) c3 ax fun eo bq => ?_)))
    refine wf (wC (decide (x_v22 < ((y.buses.length : Nat) : Int))) bq (fun bl => ?_) (fun bl => ?_))
    ·
     rw [bl, cond_true] at x
     refine wp_skip (wp_seq (wp_block (wp_seq (wp_region_from (Rk 0 2 ((tI 39 x_v22) :: (tS 38 d x_v20.length e) :: (tI 13 x_v22) :: (tS 10 p x_v21.length s) :: (K21m2 d x_v20 e)) bq ax fun er c4 => ?_)))))
     obtain ⟨ce, a7, d2, a9⟩ := ax.settle (i := 0) rfl
     replace af := af.mono a7
     replace a9 : Mem ⟨w, h, noX⟩ ce [(f, 0)] [⟨(K21c1 g y l k m), some 25⟩] [⟨d, x_v20.length, e, 3, 1, ab, (ab : List Value).length⟩, ⟨p, x_v21.length, s, 3, 1, ag, 0⟩] ef := a9
     have dz : RepS ce d e x_v20 := ⟨_, af, d2, ax.rowCap (i := 0) rfl⟩
     obtain ⟨x40, ex40, x⟩ := bnd x
     refine wl fun K hK => ?_
     refine wc [.c (.slice d x_v20.length e), .c (.int .i64 x_v22)] c4 a9 (ref_has_ok ay a9.has x_v20 dz x_v22 ex40) fun e5 bk e7 co a8 ba => ?_
     replace af := af.mono a8
     replace au := au.mono (Heap.le_trans a7 a8)
     obtain rfl := co
     refine ⟨.one (.c (.bool x40)), rfl, fun cl (c6 : Kn 46 [(f, 0)] ((tB 40 x40) :: (tI 39 x_v22) :: (tS 38 d x_v20.length e) :: (tI 13 x_v22) :: (tS 10 p x_v21.length s) :: (K21m2 d x_v20 e)) cl) => hK _ _ ?_⟩
     have br : Kn 46 [(f, 0)] ((tB 40 x40) :: (tI 13 x_v22) :: (tS 10 p x_v21.length s) :: (K21m2 d x_v20 e)) cl := c6.kp
     refine wf (wC (x40) br (fun bm => ?_) (fun bm => ?_))
     ·
      rw [cond_t bm] at x
      refine wp_region_from (Rk 0 2 ((tI 42 x_v22) :: (tS 41 p x_v21.length s) :: (tI 13 x_v22) :: (K21m2 d x_v20 e)) br ba fun es c7 => ?_)
      refine wl fun K hK => ?_
      refine wS 3 1 [.int .i64 x_v22] c7 ba fun cb d9 e8 (c8 : Kn 46 [(f, 0)] ((tS 43 cb 1 1) :: (tI 42 x_v22) :: (tS 41 p x_v21.length s) :: (tI 13 x_v22) :: (K21m2 d x_v20 e)) d9) ck => ?_
      have bp : Cells bk ([x_v22] : List Int) ([.int .i64 x_v22] : List Value) := ⟨_, _, rfl, (rep_int : rep bk (x_v22 : Int) _), rfl⟩
      refine hK _ _ ?_
      obtain ⟨x44, ex44, x⟩ := bnd x
      obtain ⟨b2, ds⟩ := app_some ex44
      refine wl fun K hK => ?_
      refine wp_append 1 8 1 _ (x44.length) _ ([.int .i64 x_v22] : List Value) c8 ck rfl rfl (by decide) rfl (by rfl) (by kernel_rfl) (by rfl) (by rfl) (Cells.len bp) (ck.rowCell (i := 2) rfl) bp.one (by rw [b2]; simp <;> omega) (by rw [b2]; exact ds) (by decide) fun a1 a3 cm ea e9 cy (da : Kn 46 [(f, 0)] ((tS 44 a1 x44.length a3) :: (tS 43 cb 1 1) :: (tI 42 x_v22) :: (tS 41 p x_v21.length s) :: (tI 13 x_v22) :: (K21m2 d x_v20 e)) ea) bu => ?_
      have ct : Cells bk x44 (ag ++ ([.int .i64 x_v22] : List Value)) := by rw [b2]; exact Cells.append au bp
      obtain rfl : cm = 0 := Nat.le_zero.1 cy
      refine hK _ _ ?_
      refine Rk 4 1 ((tS 10 a1 x44.length a3) :: (tI 13 x_v22) :: (K21m2 d x_v20 e)) da bu fun eu db => ?_
      refine wf (wp_region_from (Rk 0 3 ((tI 13 (IntKind.i64.wrap (x_v22 + 1))) :: (tS 10 a1 x44.length a3) :: (K21m2 d x_v20 e)) db bu fun ev dc => ?_))
      refine wf ?_
      exact Exists.intro ay ⟨Nat.lt_succ_self _, Exists.intro x_v20 ⟨x44, (IntKind.i64.wrap (x_v22 + 1)), d, e, ab, ((ab : List Value).length), a1, a3, (ag ++ ([.int .i64 x_v22] : List Value)), _, _, rfl, dc.kp, (bu.cutRw 2), (Heap.le_trans av (Heap.le_trans a7 a8)), af, ct, x⟩⟩
     ·
      rw [cond_f bm] at x
      refine wp_skip (wp_region_from (Rk 0 3 ((tI 13 (IntKind.i64.wrap (x_v22 + 1))) :: (tS 10 p x_v21.length s) :: (K21m2 d x_v20 e)) br ba fun ew dd => ?_))
      refine wf ?_
      exact Exists.intro ay ⟨Nat.lt_succ_self _, Exists.intro x_v20 ⟨x_v21, (IntKind.i64.wrap (x_v22 + 1)), d, e, ab, ((ab : List Value).length), p, s, ag, _, _, rfl, dd.kp, ba, (Heap.le_trans av (Heap.le_trans a7 a8)), af, au, x⟩⟩
    ·
     rw [bl, cond_false] at x
     refine wp_exit ?_
     obtain rfl := Option.some.inj x
     exact Exists.intro d ⟨e, ab, bi, p, s, ag, _, _, rfl, bq.kp, ax, av, af, au⟩
  ·
   rintro _ eg ⟨bd, bg, bc, bj, ah, ai, az, b6, ap, rfl, de, bv, el, ek, bo⟩
   refine wp_seq (wp_region_from (Rk 0 2 [(tS 8 ah aa.2.length ai)] de bv fun ex df => ?_))
   refine wf (wp_ret ?_)
   obtain ⟨cf, du, d3, bw⟩ := bv.settle (i := 1) rfl
   replace bo := bo.mono du
   replace bw : Mem ⟨w, h, noX⟩ cf [(f, 0)] [⟨(K21c1 g y l k m), some 25⟩] [⟨bd, aa.1.length, bg, 3, 1, bc, bj⟩, ⟨ah, aa.2.length, ai, 3, 1, az, (az : List Value).length⟩] eg := bw
   have d0 : RepS cf ah ai aa.2 := ⟨_, bo, d3, bv.rowCap (i := 1) rfl⟩
   obtain rfl := Option.some.inj H
   exact rt (.one (.c (.slice ah aa.2.length ai))) df bw ⟨_, _, rfl, d0⟩
abbrev K19c1 (a : Option Addr) (y : Yard) (d : Nat) (b : Option Addr) (e : Nat) : List SC := [.slice a y.room.length d, .slice b y.buses.length e, .int .i64 y.broken]
set_option maxRecDepth 100000 in
set_option maxHeartbeats 4000000 in
theorem law_asked_ok (n : Nat) {h : Heap} {w : World} (hh : Has h w) (y : Yard) {cs_y : List Value} (hx_y : rep h y cs_y) (lanes : List Int) {a_lanes : Option Addr} {c_lanes : Nat} (hr_lanes : RepS h a_lanes c_lanes lanes) (order : List Int) {a_order : Option Addr} {c_order : Nat} (hr_order : RepS h a_order c_order order) (broken : List Int) {a_broken : Option Addr} {c_broken : Nat} (hr_broken : RepS h a_broken c_broken broken) {r : Int} (H : law_asked n y lanes order broken = some r) :
  Calls Try.prog 19 #[.agg cs_y.toArray, .slice a_lanes lanes.length c_lanes, .slice a_order order.length c_order, .slice a_broken broken.length c_broken] w (Ret (fun h v => v = .int .i64 r) h w) := by
 obtain ⟨_, _, rfl, ⟨a, d, rfl, f⟩, ⟨_, _, rfl, ⟨b, e, rfl, g⟩, rfl⟩⟩ := hx_y
 refine enter 31 [.agg (K19c1 a y d b e), .c (.slice a_lanes lanes.length c_lanes), .c (.slice a_order order.length c_order), .c (.slice a_broken broken.length c_broken)] Try.func19 rfl rfl rfl rfl fun t hk => ?_
 have hm := Mem.begin h w hh
 unfold law_asked at H
 refine wp_seq (wp_region_from (wl fun K hK => ?_))
 refine wb (.agg (K19c1 a y d b e)) hk hm fun i bg b7 (au : Kn 31 [(i, 0)] [(tP 4 0 0), (tA 0 (K19c1 a y d b e)), (tS 1 a_lanes lanes.length c_lanes), (tS 2 a_order order.length c_order), (tS 3 a_broken broken.length c_broken)] bg) u => hK _ _ ?_
 refine Rk 1 1 [(tP 4 0 0), (tS 1 a_lanes lanes.length c_lanes), (tS 2 a_order order.length c_order), (tS 3 a_broken broken.length c_broken)] au u fun bj av => ?_
 refine wf (wp_seq (wp_seq (wp_region_from (Rk 0 1 [(tA 10 (K19c1 a y d b e)), (tP 4 0 0), (tS 1 a_lanes lanes.length c_lanes), (tS 2 a_order order.length c_order), (tS 3 a_broken broken.length c_broken)] av u fun bk aw => ?_))))
 obtain ⟨x11, ex11, H⟩ := bnd H
 refine wl fun K hK => ?_
 refine wc [.agg (K19c1 a y d b e)] aw u (law_fault_ok n u.has y ((rep_pair (rep_slice f) (rep_pair (rep_slice g) rep_int)) : rep h y _) ex11) fun bz ap b3 al p j => ?_
 replace f := f.mono p
 replace g := g.mono p
 replace hr_lanes := hr_lanes.mono p
 replace hr_order := hr_order.mono p
 replace hr_broken := hr_broken.mono p
 obtain rfl := al
 refine ⟨.one (.c (.int .i64 x11)), rfl, fun bc (ax : Kn 31 [(i, 0)] [(tI 11 x11), (tA 10 (K19c1 a y d b e)), (tP 4 0 0), (tS 1 a_lanes lanes.length c_lanes), (tS 2 a_order order.length c_order), (tS 3 a_broken broken.length c_broken)] bc) => hK _ _ ?_⟩
 refine Rk 2 1 [(tI 9 x11), (tP 4 0 0), (tS 1 a_lanes lanes.length c_lanes), (tS 2 a_order order.length c_order), (tS 3 a_broken broken.length c_broken)] ax j fun bl ay => ?_
 refine wf (wp_seq (wp_region_from (Rk 0 2 [(tB 13 (x11 != 0)), (tI 9 x11), (tP 4 0 0), (tS 1 a_lanes lanes.length c_lanes), (tS 2 a_order order.length c_order), (tS 3 a_broken broken.length c_broken)] ay j fun bm aa => ?_)))
 refine wf (wC ((x11 != 0)) aa (fun x => ?_) (fun x => ?_))
 ·
  rw [x, cond_true] at H
  refine wp_seq (wp_region_from (Rk 0 2 [(tI 8 x11)] aa j fun bn az => ?_))
  refine wf (wp_ret ?_)
  obtain rfl := Option.some.inj H
  exact rt (.one (.c (.int .i64 x11))) az j rfl
 ·
  rw [x, cond_false] at H
  refine wp_skip (wp_seq (wp_seq (wp_region_from (Rk 0 2 [(tS 16 a_lanes lanes.length c_lanes), (tA 15 (K19c1 a y d b e)), (tP 4 0 0), (tS 2 a_order order.length c_order), (tS 3 a_broken broken.length c_broken)] aa j fun bo a0 => ?_))))
  obtain ⟨x17, ex17, H⟩ := bnd H
  refine wl fun K hK => ?_
  refine wc [.agg (K19c1 a y d b e), .c (.slice a_lanes lanes.length c_lanes)] a0 j (ref_IsLanes_ok n j.has y ((rep_pair (rep_slice f) (rep_pair (rep_slice g) rep_int)) : rep ap y _) lanes hr_lanes ex17) fun b0 aq b4 am s k => ?_
  replace f := f.mono s
  replace g := g.mono s
  replace hr_order := hr_order.mono s
  replace hr_broken := hr_broken.mono s
  obtain rfl := am
  refine ⟨.one (.c (.bool x17)), rfl, fun bd (a1 : Kn 31 [(i, 0)] [(tB 17 x17), (tS 16 a_lanes lanes.length c_lanes), (tA 15 (K19c1 a y d b e)), (tP 4 0 0), (tS 2 a_order order.length c_order), (tS 3 a_broken broken.length c_broken)] bd) => hK _ _ ?_⟩
  refine Rk 3 2 [(tB 19 (!x17)), (tP 4 0 0), (tS 2 a_order order.length c_order), (tS 3 a_broken broken.length c_broken)] a1 k fun aj ad => ?_
  rcases Bool.eq_false_or_eq_true ((!x17)) with m | m
  ·
   rw [m, cond_true] at H
   have a2 : Kn 31 [(i, 0)] [(tB 19 true), (tP 4 0 0), (tS 2 a_order order.length c_order), (tS 3 a_broken broken.length c_broken)] aj := (ad.setB 19 true (by rfl) m).kp
   refine Rk 5 11 [(tB 30 true)] a2 k fun bp ae => ?_
   refine wf (wC true ae (fun hb => ?_) (fun hb => ?_))
   rotate_left
   ·
    cases hb
   refine wp_seq (wp_region_from (Rk 0 1 [(tI 8 2)] ae k fun bq a3 => ?_))
   refine wf (wp_ret ?_)
   obtain rfl := Option.some.inj H
   exact rt (.one (.c (.int .i64 2))) a3 k rfl
  ·
   rw [m, cond_false] at H
   have a4 : Kn 31 [(i, 0)] [(tB 19 false), (tP 4 0 0), (tS 2 a_order order.length c_order), (tS 3 a_broken broken.length c_broken)] aj := (ad.setB 19 false (by rfl) m).kp
   refine Rk 5 2 [(tS 21 a_order order.length c_order), (tA 20 (K19c1 a y d b e)), (tB 19 false), (tP 4 0 0), (tS 3 a_broken broken.length c_broken)] a4 k fun br af => ?_
   obtain ⟨x22, ex22, H⟩ := bnd H
   refine wpFrom_loud _ rfl (wantedS_sound af (by kernel_rfl)) fun K hK => ?_
   refine wc [.agg (K19c1 a y d b e), .c (.slice a_order order.length c_order)] af k (ref_Possible_ok n k.has y ((rep_pair (rep_slice f) (rep_pair (rep_slice g) rep_int)) : rep aq y _) order hr_order ex22) fun b1 ar b5 an ac l => ?_
   replace f := f.mono ac
   replace g := g.mono ac
   replace hr_broken := hr_broken.mono ac
   obtain rfl := an
   refine ⟨.one (.c (.bool x22)), rfl, fun be (a5 : Kn 31 [(i, 0)] [(tB 22 x22), (tS 21 a_order order.length c_order), (tA 20 (K19c1 a y d b e)), (tB 19 false), (tP 4 0 0), (tS 3 a_broken broken.length c_broken)] be) => hK _ _ ?_⟩
   refine Rk 8 3 [(tB 25 (!x22)), (tP 4 0 0), (tS 3 a_broken broken.length c_broken)] a5 l fun ak ag => ?_
   rcases Bool.eq_false_or_eq_true ((!x22)) with o | o
   ·
    rw [o, cond_true] at H
    have a6 : Kn 31 [(i, 0)] [(tB 25 true), (tP 4 0 0), (tS 3 a_broken broken.length c_broken)] ak := (ag.setB 25 true (by rfl) o).kp
    refine Rk 11 5 [(tB 30 true)] a6 l fun bs ah => ?_
    refine wf (wC true ah (fun hb => ?_) (fun hb => ?_))
    rotate_left
    ·
     cases hb
    refine wp_seq (wp_region_from (Rk 0 1 [(tI 8 2)] ah l fun bt a7 => ?_))
    refine wf (wp_ret ?_)
    obtain rfl := Option.some.inj H
    exact rt (.one (.c (.int .i64 2))) a7 l rfl
   ·
    rw [o, cond_false] at H
    have a8 : Kn 31 [(i, 0)] [(tB 25 false), (tP 4 0 0), (tS 3 a_broken broken.length c_broken)] ak := (ag.setB 25 false (by rfl) o).kp
    refine Rk 11 2 [(tS 27 a_broken broken.length c_broken), (tA 26 (K19c1 a y d b e)), (tB 25 false)] a8 l fun bu ai => ?_
    obtain ⟨x28, ex28, H⟩ := bnd H
    refine wpFrom_loud _ rfl (wantedS_sound ai (by kernel_rfl)) fun K hK => ?_
    refine wc [.agg (K19c1 a y d b e), .c (.slice a_broken broken.length c_broken)] ai l (ref_IsBroken_ok n l.has y ((rep_pair (rep_slice f) (rep_pair (rep_slice g) rep_int)) : rep ar y _) broken hr_broken ex28) fun b2 bh b6 ao bi q => ?_
    obtain rfl := ao
    refine ⟨.one (.c (.bool x28)), rfl, fun bf (a9 : Kn 31 [(i, 0)] [(tB 28 x28), (tS 27 a_broken broken.length c_broken), (tA 26 (K19c1 a y d b e)), (tB 25 false)] bf) => hK _ _ ?_⟩
    refine Rk 14 2 [(tB 30 (!x28))] a9 q fun bv ab => ?_
    refine wf (wC ((!x28)) ab (fun z => ?_) (fun z => ?_))
    ·
     rw [z, cond_true] at H
     refine wp_seq (wp_region_from (Rk 0 1 [(tI 8 2)] ab q fun bw ba => ?_))
     refine wf (wp_ret ?_)
     obtain rfl := Option.some.inj H
     exact rt (.one (.c (.int .i64 2))) ba q rfl
    ·
     rw [z, cond_false] at H
     refine wp_skip (wp_seq (wp_region_from (Rk 0 1 [(tI 8 0)] ab q fun bx bb => ?_)))
     refine wf (wp_ret ?_)
     obtain rfl := Option.some.inj H
     exact rt (.one (.c (.int .i64 0))) bb q rfl
abbrev K3c1 (b : Option Addr) (y : Yard) (e : Nat) (d : Option Addr) (f : Nat) : List SC := [.slice b y.room.length e, .slice d y.buses.length f, .int .i64 y.broken]
abbrev K3c2 (k : Option Addr) (x33 : Yard) (m : Nat) (l : Option Addr) (o : Nat) : List SC := [.slice k x33.room.length m, .slice l x33.buses.length o, .int .i64 x33.broken]
abbrev K3m3 (a_lanes : Option Addr) (lanes : List Int) (c_lanes : Nat) (a_order : Option Addr) (order : List Int) (c_order : Nat) (a_broken : Option Addr) (broken : List Int) (c_broken : Nat) : TM := [(tP 4 0 0), (tS 1 a_lanes lanes.length c_lanes), (tS 2 a_order order.length c_order), (tS 3 a_broken broken.length c_broken)]
set_option maxRecDepth 100000 in
set_option maxHeartbeats 4000000 in
theorem law_LaneShunts_ok (n : Nat) {h : Heap} {w : World} (hh : Has h w) (y : Yard) {cs_y : List Value} (hx_y : rep h y cs_y) (lanes : List Int) {a_lanes : Option Addr} {c_lanes : Nat} (hr_lanes : RepS h a_lanes c_lanes lanes) (order : List Int) {a_order : Option Addr} {c_order : Nat} (hr_order : RepS h a_order c_order order) (broken : List Int) {a_broken : Option Addr} {c_broken : Nat} (hr_broken : RepS h a_broken c_broken broken) {r : Bool} (H : law_LaneShunts n y lanes order broken = some r) :
  Calls Try.prog 3 #[.agg cs_y.toArray, .slice a_lanes lanes.length c_lanes, .slice a_order order.length c_order, .slice a_broken broken.length c_broken] w (Ret (fun h v => v = .bool r) h w) := by
 obtain ⟨_, _, rfl, ⟨b, e, rfl, q⟩, ⟨_, _, rfl, ⟨d, f, rfl, s⟩, rfl⟩⟩ := hx_y
 refine enter 75 [.agg (K3c1 b y e d f), .c (.slice a_lanes lanes.length c_lanes), .c (.slice a_order order.length c_order), .c (.slice a_broken broken.length c_broken)] Try.func3 rfl rfl rfl rfl fun t hk => ?_
 have hm := Mem.begin h w hh
 unfold law_LaneShunts at H
 refine wp_seq (wp_region_from (wl fun K hK => ?_))
 refine wb (.agg (K3c1 b y e d f)) hk hm fun a ee f4 (cp : Kn 75 [(a, 0)] [(tP 4 0 0), (tA 0 (K3c1 b y e d f)), (tS 1 a_lanes lanes.length c_lanes), (tS 2 a_order order.length c_order), (tS 3 a_broken broken.length c_broken)] ee) a2 => hK _ _ ?_
 refine Rk 1 1 (K3m3 a_lanes lanes c_lanes a_order order c_order a_broken broken c_broken) cp a2 fun eu ct => ?_
 refine wf (wp_seq (wp_seq ?_))
 obtain ⟨bh, p, H⟩ := bnd H
 refine wp_mid' (fun a' w' => ∃ (bj : Array Value) (a0 : Heap), a' = ⟨bj, []⟩ ∧ Kn 75 [(a, 0)] [(tP 4 0 0), (tS 1 a_lanes lanes.length c_lanes), (tS 2 a_order order.length c_order), (tS 3 a_broken broken.length c_broken), (tB 29 bh)] bj ∧ Mem ⟨w, h, noX⟩ a0 [(a, 0)] [⟨(K3c1 b y e d f), some 25⟩] [] w' ∧ Heap.le h a0) ?_ ?_
 ·
  refine wp_region_from (Rk 0 1 ((tA 12 (K3c1 b y e d f)) :: (K3m3 a_lanes lanes c_lanes a_order order c_order a_broken broken c_broken)) ct a2 fun e0 c7 => ?_)
  obtain ⟨x13, ex13, p⟩ := bnd p
  refine wl fun K hK => ?_
  refine wc [.agg (K3c1 b y e d f)] c7 a2 (law_Thin_ok n a2.has y ((rep_pair (rep_slice q) (rep_pair (rep_slice s) rep_int)) : rep h y _) ex13) fun fk ej fy ci a1 u => ?_
  obtain rfl := ci
  refine ⟨.one (.c (.bool x13)), rfl, fun eb (dg : Kn 75 [(a, 0)] ((tB 13 x13) :: (tA 12 (K3c1 b y e d f)) :: (K3m3 a_lanes lanes c_lanes a_order order c_order a_broken broken c_broken)) eb) => hK _ _ ?_⟩
  refine Rk 2 2 ((tB 15 (!x13)) :: (K3m3 a_lanes lanes c_lanes a_order order c_order a_broken broken c_broken)) dg u fun b8 bt => ?_
  rcases Bool.eq_false_or_eq_true ((!x13)) with al | al
  ·
   rw [al, cond_true] at p
   have dh : Kn 75 [(a, 0)] ((tB 15 true) :: (K3m3 a_lanes lanes c_lanes a_order order c_order a_broken broken c_broken)) b8 := (bt.setB 15 true (by rfl) al).kp
   refine Rk 4 14 ((tB 29 true) :: (K3m3 a_lanes lanes c_lanes a_order order c_order a_broken broken c_broken)) dh u fun e7 di => ?_
   refine wf ?_
   obtain rfl := Option.some.inj p
   exact Exists.intro _ ⟨_, rfl, di.kp, u, a1⟩
  ·
   rw [al, cond_false] at p
   have dj : Kn 75 [(a, 0)] ((tB 15 false) :: (K3m3 a_lanes lanes c_lanes a_order order c_order a_broken broken c_broken)) b8 := (bt.setB 15 false (by rfl) al).kp
   refine Rk 4 5 ((tB 20 (decide (((lanes.length : Nat) : Int) > 15))) :: (K3m3 a_lanes lanes c_lanes a_order order c_order a_broken broken c_broken)) dj u fun b9 bu => ?_
   rcases Bool.eq_false_or_eq_true (decide (((lanes.length : Nat) : Int) > 15)) with am | am
   ·
    rw [am, cond_true] at p
    have dk : Kn 75 [(a, 0)] ((tB 20 true) :: (K3m3 a_lanes lanes c_lanes a_order order c_order a_broken broken c_broken)) b9 := (bu.setB 20 true (by rfl) am).kp
    refine Rk 9 9 ((tB 29 true) :: (K3m3 a_lanes lanes c_lanes a_order order c_order a_broken broken c_broken)) dk u fun e8 dl => ?_
    refine wf ?_
    obtain rfl := Option.some.inj p
    exact Exists.intro _ ⟨_, rfl, dl.kp, u, a1⟩
   ·
    rw [am, cond_false] at p
    have dm : Kn 75 [(a, 0)] ((tB 20 false) :: (K3m3 a_lanes lanes c_lanes a_order order c_order a_broken broken c_broken)) b9 := (bu.setB 20 false (by rfl) am).kp
    refine Rk 9 5 ((tB 25 (decide (((order.length : Nat) : Int) > 15))) :: (K3m3 a_lanes lanes c_lanes a_order order c_order a_broken broken c_broken)) dm u fun ca bv => ?_
    rcases Bool.eq_false_or_eq_true (decide (((order.length : Nat) : Int) > 15)) with an | an
    ·
     rw [an, cond_true] at p
     have dn : Kn 75 [(a, 0)] ((tB 25 true) :: (K3m3 a_lanes lanes c_lanes a_order order c_order a_broken broken c_broken)) ca := (bv.setB 25 true (by rfl) an).kp
     refine Rk 14 4 ((tB 29 true) :: (K3m3 a_lanes lanes c_lanes a_order order c_order a_broken broken c_broken)) dn u fun e9 dp => ?_
     refine wf ?_
     obtain rfl := Option.some.inj p
     exact Exists.intro _ ⟨_, rfl, dp.kp, u, a1⟩
    ·
     rw [an, cond_false] at p
     have dq : Kn 75 [(a, 0)] ((tB 25 false) :: (K3m3 a_lanes lanes c_lanes a_order order c_order a_broken broken c_broken)) ca := (bv.setB 25 false (by rfl) an).kp
     refine Rk 14 4 ((tB 29 (decide (((broken.length : Nat) : Int) > 15))) :: (K3m3 a_lanes lanes c_lanes a_order order c_order a_broken broken c_broken)) dq u fun fa dr => ?_
     refine wf ?_
     obtain rfl := Option.some.inj p
     exact Exists.intro _ ⟨_, rfl, dr.kp, u, a1⟩
 ·
  rintro _ f0 ⟨bj, a0, rfl, a8, au, ap⟩
  replace q := q.mono ap
  replace s := s.mono ap
  replace hr_lanes := hr_lanes.mono ap
  replace hr_order := hr_order.mono ap
  replace hr_broken := hr_broken.mono ap
  refine wC (bh) a8 (fun a6 => ?_) (fun a6 => ?_)
  ·
   rw [cond_t a6] at H
   refine wp_seq (wp_region_from ?_)
   obtain ⟨x30, ex30, H⟩ := bnd H
   refine wl fun K hK => ?_
   refine wc [] a8 au (law_awake_ok n au.has  ex30) fun fn el f1 cj es b2 => ?_
   obtain rfl := cj
   refine ⟨.one (.c (.bool x30)), rfl, fun ec (ds : Kn 75 [(a, 0)] [(tB 30 x30), (tP 4 0 0), (tS 1 a_lanes lanes.length c_lanes), (tS 2 a_order order.length c_order), (tS 3 a_broken broken.length c_broken), (tB 29 bh)] ec) => hK _ _ ?_⟩
   refine Rk 1 1 [(tB 8 x30)] ds b2 fun fb dt => ?_
   refine wf (wp_ret ?_)
   obtain rfl := Option.some.inj H
   exact rt (.one (.c (.bool x30))) dt b2 rfl
  ·
   rw [cond_f a6] at H
   refine wp_skip (wp_seq (wp_region_from (Rk 0 1 ((tA 32 (K3c1 b y e d f)) :: (K3m3 a_lanes lanes c_lanes a_order order c_order a_broken broken c_broken)) a8 au fun fc du => ?_)))
   obtain ⟨x33, ex33, H⟩ := bnd H
   refine wl fun K hK => ?_
   refine wc [.agg (K3c1 b y e d f)] du au (law_Yard_ok n au.has y ((rep_pair (rep_slice q) (rep_pair (rep_slice s) rep_int)) : rep a0 y _) ex33) fun fo em f2 ck aq bb => ?_
   replace hr_lanes := hr_lanes.mono aq
   obtain ⟨_, rfl, ⟨_, _, rfl, ⟨k, m, rfl, be⟩, ⟨_, _, rfl, ⟨l, o, rfl, bf⟩, rfl⟩⟩⟩ := ck
   refine ⟨.one (.agg (K3c2 k x33 m l o)), rfl, fun ed (dv : Kn 75 [(a, 0)] ((tA 33 (K3c2 k x33 m l o)) :: (tA 32 (K3c1 b y e d f)) :: (K3m3 a_lanes lanes c_lanes a_order order c_order a_broken broken c_broken)) ed) => hK _ _ ?_⟩
   refine Rk 2 1 ((tS 34 a_lanes lanes.length c_lanes) :: (tA 33 (K3c2 k x33 m l o)) :: (K3m3 a_lanes lanes c_lanes a_order order c_order a_broken broken c_broken)) dv bb fun fd dw => ?_
   obtain ⟨x35, ex35, H⟩ := bnd H
   refine wl fun K hK => ?_
   refine wc [.c (.slice a_lanes lanes.length c_lanes)] dw bb (law_list_ok n bb.has lanes hr_lanes ex35) fun fp en f3 cl ad bc => ?_
   replace hr_order := hr_order.mono (Heap.le_trans aq ad)
   obtain ⟨aa, ab, rfl, bg⟩ := cl
   refine ⟨.one (.c (.slice aa x35.length ab)), rfl, fun ef (dx : Kn 75 [(a, 0)] ((tS 35 aa x35.length ab) :: (tS 34 a_lanes lanes.length c_lanes) :: (tA 33 (K3c2 k x33 m l o)) :: (K3m3 a_lanes lanes c_lanes a_order order c_order a_broken broken c_broken)) ef) => hK _ _ ?_⟩
   refine Rk 4 1 ((tS 36 a_order order.length c_order) :: (tS 35 aa x35.length ab) :: (tA 33 (K3c2 k x33 m l o)) :: (K3m3 a_lanes lanes c_lanes a_order order c_order a_broken broken c_broken)) dx bc fun fe dy => ?_
   obtain ⟨x37, ex37, H⟩ := bnd H
   refine wl fun K hK => ?_
   refine wc [.c (.slice a_order order.length c_order)] dy bc (law_list_ok n bc.has order hr_order ex37) fun fq eo f5 cm ac ba => ?_
   replace hr_broken := hr_broken.mono (Heap.le_trans (Heap.le_trans aq ad) ac)
   obtain ⟨ae, af, rfl, bd⟩ := cm
   refine ⟨.one (.c (.slice ae x37.length af)), rfl, fun d3 (cq : Kn 75 [(a, 0)] ((tS 37 ae x37.length af) :: (tS 36 a_order order.length c_order) :: (tS 35 aa x35.length ab) :: (tA 33 (K3c2 k x33 m l o)) :: (K3m3 a_lanes lanes c_lanes a_order order c_order a_broken broken c_broken)) d3) => hK _ _ ?_⟩
   refine Rk 6 1 ((tS 38 a_broken broken.length c_broken) :: (tS 37 ae x37.length af) :: (tS 35 aa x35.length ab) :: (tA 33 (K3c2 k x33 m l o)) :: (K3m3 a_lanes lanes c_lanes a_order order c_order a_broken broken c_broken)) cq ba fun et cr => ?_
   obtain ⟨x39, ex39, H⟩ := bnd H
   refine wl fun K hK => ?_
   refine wc [.c (.slice a_broken broken.length c_broken)] cr ba (law_list_ok n ba.has broken hr_broken ex39) fun ff cn fr cb z bx => ?_
   replace be := be.mono (Heap.le_trans (Heap.le_trans ad ac) z)
   replace bf := bf.mono (Heap.le_trans (Heap.le_trans ad ac) z)
   replace bg := bg.mono (Heap.le_trans ac z)
   replace bd := bd.mono z
   obtain ⟨aw, ay, rfl, d1⟩ := cb
   refine ⟨.one (.c (.slice aw x39.length ay)), rfl, fun d4 (cs : Kn 75 [(a, 0)] ((tS 39 aw x39.length ay) :: (tS 38 a_broken broken.length c_broken) :: (tS 37 ae x37.length af) :: (tS 35 aa x35.length ab) :: (tA 33 (K3c2 k x33 m l o)) :: (K3m3 a_lanes lanes c_lanes a_order order c_order a_broken broken c_broken)) d4) => hK _ _ ?_⟩
   obtain ⟨x40, ex40, H⟩ := bnd H
   refine wl fun K hK => ?_
   refine wc [.agg (K3c2 k x33 m l o), .c (.slice aa x35.length ab), .c (.slice ae x37.length af), .c (.slice aw x39.length ay)] cs bx (lane_Shunts_ok n bx.has x33 ((rep_pair (rep_slice be) (rep_pair (rep_slice bf) rep_int)) : rep cn x33 _) x35 bg x37 bd x39 d1 ex40) fun fg co fs cc ao a3 => ?_
   replace q := q.mono (Heap.le_trans (Heap.le_trans (Heap.le_trans (Heap.le_trans aq ad) ac) z) ao)
   replace s := s.mono (Heap.le_trans (Heap.le_trans (Heap.le_trans (Heap.le_trans aq ad) ac) z) ao)
   replace hr_lanes := hr_lanes.mono (Heap.le_trans (Heap.le_trans (Heap.le_trans ad ac) z) ao)
   replace hr_order := hr_order.mono (Heap.le_trans (Heap.le_trans ac z) ao)
   replace hr_broken := hr_broken.mono (Heap.le_trans z ao)
   obtain ⟨_, _, rfl, ⟨g, i, rfl, av⟩, rfl⟩ := cc
   refine ⟨.tup [.c (.slice g x40.1.length i), .c (.int .i64 x40.2)], rfl, fun d5 (cu : Kn 75 [(a, 0)] ((40, .tup [.c (.slice g x40.1.length i), .c (.int .i64 x40.2)]) :: (tS 39 aw x39.length ay) :: (tS 38 a_broken broken.length c_broken) :: (tS 37 ae x37.length af) :: (tS 35 aa x35.length ab) :: (tA 33 (K3c2 k x33 m l o)) :: (K3m3 a_lanes lanes c_lanes a_order order c_order a_broken broken c_broken)) d5) => hK _ _ ?_⟩
   refine Rk 9 5 ((tI 10 x40.2) :: (tS 9 g x40.1.length i) :: (K3m3 a_lanes lanes c_lanes a_order order c_order a_broken broken c_broken)) cu a3 fun ev cv => ?_
   refine wf (wp_seq (wp_seq (wp_region_from (Rk 0 4 ((tS 46 a_broken broken.length c_broken) :: (tS 45 a_order order.length c_order) :: (tS 44 a_lanes lanes.length c_lanes) :: (tA 43 (K3c1 b y e d f)) :: (tI 10 x40.2) :: (tS 9 g x40.1.length i) :: (K3m3 a_lanes lanes c_lanes a_order order c_order a_broken broken c_broken)) cv a3 fun ew cw => ?_))))
   obtain ⟨x47, ex47, H⟩ := bnd H
   refine wl fun K hK => ?_
   refine wc [.agg (K3c1 b y e d f), .c (.slice a_lanes lanes.length c_lanes), .c (.slice a_order order.length c_order), .c (.slice a_broken broken.length c_broken)] cw a3 (law_asked_ok n a3.has y ((rep_pair (rep_slice q) (rep_pair (rep_slice s) rep_int)) : rep co y _) lanes hr_lanes order hr_order broken hr_broken ex47) fun fh bk ft cd ag j => ?_
   replace q := q.mono ag
   replace s := s.mono ag
   replace hr_lanes := hr_lanes.mono ag
   replace hr_order := hr_order.mono ag
   replace hr_broken := hr_broken.mono ag
   replace av := av.mono ag
   obtain rfl := cd
   refine ⟨.one (.c (.int .i64 x47)), rfl, fun d6 (cx : Kn 75 [(a, 0)] ((tI 47 x47) :: (tS 46 a_broken broken.length c_broken) :: (tS 45 a_order order.length c_order) :: (tS 44 a_lanes lanes.length c_lanes) :: (tA 43 (K3c1 b y e d f)) :: (tI 10 x40.2) :: (tS 9 g x40.1.length i) :: (K3m3 a_lanes lanes c_lanes a_order order c_order a_broken broken c_broken)) d6) => hK _ _ ?_⟩
   refine Rk 5 1 ((tI 11 x47) :: (tI 10 x40.2) :: (tS 9 g x40.1.length i) :: (K3m3 a_lanes lanes c_lanes a_order order c_order a_broken broken c_broken)) cx j fun ex cy => ?_
   refine wf (wp_seq (wp_region_from (Rk 0 2 ((tB 49 (x47 != 0)) :: (tI 11 x47) :: (tI 10 x40.2) :: (tS 9 g x40.1.length i) :: (K3m3 a_lanes lanes c_lanes a_order order c_order a_broken broken c_broken)) cy j fun ey a7 => ?_)))
   refine wf (wC ((x47 != 0)) a7 (fun a5 => ?_) (fun a5 => ?_))
   ·
    rw [a5, cond_true] at H
    refine wp_seq ?_
    obtain ⟨b3, x, H⟩ := bnd H
    refine wp_mid' (fun a' w' => ∃ (bi : Array Value) (a4 : Heap), a' = ⟨bi, []⟩ ∧ Kn 75 [(a, 0)] [(tB 8 b3)] bi ∧ Mem ⟨w, h, noX⟩ a4 [(a, 0)] [⟨(K3c1 b y e d f), some 25⟩] [] w' ∧ Heap.le bk a4) ?_ ?_
    ·
     refine wp_region_from (Rk 0 4 [(tB 53 (x40.2 == x47)), (tS 9 g x40.1.length i)] a7 j fun b4 bl => ?_)
     rcases Bool.eq_false_or_eq_true ((x40.2 == x47)) with ah | ah
     ·
      rw [ah, cond_true] at x
      have cz : Kn 75 [(a, 0)] [(tB 53 true), (tS 9 g x40.1.length i)] b4 := (bl.setB 53 true (by rfl) ah).kp
      refine Rk 4 5 [(tB 58 (((x40.1.length : Nat) : Int) == 0))] cz j fun b5 bm => ?_
      rcases Bool.eq_false_or_eq_true ((((x40.1.length : Nat) : Int) == 0)) with ai | ai
      ·
       rw [ai, cond_true] at x
       have bn : Kn 75 [(a, 0)] [(tB 58 true)] b5 := (bm.setB 58 true (by rfl) ai).kp
       obtain ⟨x59, ex59, x⟩ := bnd x
       refine wpFrom_loud _ rfl (wantedS_sound bn (by kernel_rfl)) fun K hK => ?_
       refine wc [] bn j (law_awake_ok n j.has  ex59) fun fi eg fu ce dz bz => ?_
       obtain rfl := ce
       refine ⟨.one (.c (.bool x59)), rfl, fun d7 (c0 : Kn 75 [(a, 0)] [(tB 59 x59), (tB 58 true)] d7) => hK _ _ ?_⟩
       refine Rk 10 2 [(tB 8 x59)] c0 bz fun ez c1 => ?_
       refine wf ?_
       obtain rfl := Option.some.inj x
       exact Exists.intro _ ⟨_, rfl, c1.kp, bz, dz⟩
      ·
       rw [ai, cond_false] at x
       have c2 : Kn 75 [(a, 0)] [(tB 58 false)] b5 := (bm.setB 58 false (by rfl) ai).kp
       refine Rk 9 3 [(tB 8 false)] c2 j fun e1 c3 => ?_
       refine wf ?_
       obtain rfl := Option.some.inj x
       exact Exists.intro _ ⟨_, rfl, c3.kp, j, (Heap.le_refl _)⟩
     ·
      rw [ah, cond_false] at x
      have c4 : Kn 75 [(a, 0)] [(tB 53 false), (tS 9 g x40.1.length i)] b4 := (bl.setB 53 false (by rfl) ah).kp
      refine Rk 4 8 [(tB 8 false)] c4 j fun e2 c5 => ?_
      refine wf ?_
      obtain rfl := Option.some.inj x
      exact Exists.intro _ ⟨_, rfl, c5.kp, j, (Heap.le_refl _)⟩
    ·
     rintro _ fv ⟨bi, a4, rfl, c6, d0, ep⟩
     refine wp_ret ?_
     obtain rfl := Option.some.inj H
     exact rt (.one (.c (.bool b3))) c6 d0 rfl
   ·
    rw [a5, cond_false] at H
    refine wp_skip (wp_seq (wp_region_from (Rk 0 3 ((tB 63 (x40.2 == 0)) :: (tS 9 g x40.1.length i) :: (K3m3 a_lanes lanes c_lanes a_order order c_order a_broken broken c_broken)) a7 j fun b6 bo => ?_)))
    rcases Bool.eq_false_or_eq_true ((x40.2 == 0)) with aj | aj
    ·
     rw [aj, cond_true] at H
     have c8 : Kn 75 [(a, 0)] ((tB 63 true) :: (tS 9 g x40.1.length i) :: (K3m3 a_lanes lanes c_lanes a_order order c_order a_broken broken c_broken)) b6 := (bo.setB 63 true (by rfl) aj).kp
     refine Rk 3 5 [(tS 68 a_broken broken.length c_broken), (tS 67 a_order order.length c_order), (tS 66 a_lanes lanes.length c_lanes), (tA 65 (K3c1 b y e d f)), (tS 64 g x40.1.length i), (tB 63 true)] c8 j fun e3 bp => ?_
     obtain ⟨x69, ex69, H⟩ := bnd H
     refine wpFrom_loud _ rfl (wantedS_sound bp (by kernel_rfl)) fun K hK => ?_
     refine wc [.agg (K3c1 b y e d f), .c (.slice a_lanes lanes.length c_lanes), .c (.slice a_order order.length c_order), .c (.slice a_broken broken.length c_broken)] bp j (ref_Shunts_ok n j.has y ((rep_pair (rep_slice q) (rep_pair (rep_slice s) rep_int)) : rep bk y _) lanes hr_lanes order hr_order broken hr_broken ex69) fun fj eh fw cf a9 b0 => ?_
     replace av := av.mono a9
     obtain ⟨ax, az, rfl, d2⟩ := cf
     refine ⟨.one (.c (.slice ax x69.length az)), rfl, fun d8 (bq : Kn 75 [(a, 0)] [(tS 69 ax x69.length az), (tS 68 a_broken broken.length c_broken), (tS 67 a_order order.length c_order), (tS 66 a_lanes lanes.length c_lanes), (tA 65 (K3c1 b y e d f)), (tS 64 g x40.1.length i), (tB 63 true)] d8) => hK _ _ ?_⟩
     obtain ⟨x70, ex70, H⟩ := bnd H
     refine wpFrom_loud _ rfl (wantedS_sound bq (by kernel_rfl)) fun K hK => ?_
     refine wc [.c (.slice g x40.1.length i), .c (.slice ax x69.length az)] bq b0 (law_ints_ok n b0.has x40.1 av x69 d2 ex70) fun fl ei fx cg bw ar => ?_
     replace q := q.mono (Heap.le_trans a9 bw)
     replace s := s.mono (Heap.le_trans a9 bw)
     obtain rfl := cg
     refine ⟨.one (.c (.bool x70)), rfl, fun d9 (c9 : Kn 75 [(a, 0)] [(tB 70 x70), (tS 69 ax x69.length az), (tS 68 a_broken broken.length c_broken), (tS 67 a_order order.length c_order), (tS 66 a_lanes lanes.length c_lanes), (tA 65 (K3c1 b y e d f)), (tS 64 g x40.1.length i), (tB 63 true)] d9) => hK _ _ ?_⟩
     refine Rk 10 2 [(tB 72 x70)] c9 ar fun b7 br => ?_
     rcases Bool.eq_false_or_eq_true (x70) with ak | ak
     ·
      rw [cond_t ak] at H
      have bs : Kn 75 [(a, 0)] [(tB 72 true)] b7 := (br.setB 72 true (by rfl) ak).kp
      obtain ⟨x73, ex73, H⟩ := bnd H
      refine wpFrom_loud _ rfl (wantedS_sound bs (by kernel_rfl)) fun K hK => ?_
      refine wc [] bs ar (law_awake_ok n ar.has  ex73) fun fm ek fz ch er b1 => ?_
      obtain rfl := ch
      refine ⟨.one (.c (.bool x73)), rfl, fun ea (da : Kn 75 [(a, 0)] [(tB 73 x73), (tB 72 true)] ea) => hK _ _ ?_⟩
      refine Rk 13 2 [(tB 8 x73)] da b1 fun e4 db => ?_
      refine wf (wp_ret ?_)
      obtain rfl := Option.some.inj H
      exact rt (.one (.c (.bool x73))) db b1 rfl
     ·
      rw [cond_f ak] at H
      have dc : Kn 75 [(a, 0)] [(tB 72 false)] b7 := (br.setB 72 false (by rfl) ak).kp
      refine Rk 12 3 [(tB 8 false)] dc ar fun e5 dd => ?_
      refine wf (wp_ret ?_)
      obtain rfl := Option.some.inj H
      exact rt (.one (.c (.bool false))) dd ar rfl
    ·
     rw [aj, cond_false] at H
     have de : Kn 75 [(a, 0)] ((tB 63 false) :: (tS 9 g x40.1.length i) :: (K3m3 a_lanes lanes c_lanes a_order order c_order a_broken broken c_broken)) b6 := (bo.setB 63 false (by rfl) aj).kp
     refine Rk 3 12 [(tB 8 false)] de j fun e6 df => ?_
     refine wf (wp_ret ?_)
     obtain rfl := Option.some.inj H
     exact rt (.one (.c (.bool false))) df j rfl
end Go.Proofs.Ythcbemnflgjadaa
