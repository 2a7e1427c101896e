/- Each call computes its plain function. -/
import Derived.Test.YthcbemnflgjadaaProg
import Derived.Test.YthcbemnflgjadaaNmP0
import Derived.Test.YthcbemnflgjadaaNmS8
import Derived.Test.YthcbemnflgjadaaNmWA
set_option linter.all false
namespace Go.Proofs.Ythcbemnflgjadaa
open Go Go.RowKit
open Rep (rep)
open KRep (kv)
open VRep (rv)
abbrev K54c1 (p : Option Addr) (y : Yard) (s : Nat) (z : Option Addr) (aa : Nat) : List SC := [.slice p y.room.length s, .slice z y.buses.length aa, .int .i64 y.broken]
abbrev K54m2 (x_v11 : Int) (l : List Int) (a_l : Option Addr) (c_l : Nat) (a : Option Addr) (x_v10 : List Int) (d : Nat) : TM := [(tI 19 x_v11), (tI 18 ((l.length : Nat) : Int)), (tS 17 a_l l.length c_l), (tS 5 a x_v10.length d)]
set_option maxRecDepth 100000 in
set_option maxHeartbeats 4000000 in
theorem lane_Yard_lanes_ok (n : Nat) {h : Heap} {w : World} (hh : Has h w) (y : Yard) {cs_y : List Value} (hx_y : rep h y cs_y) (l : List Int) {a_l : Option Addr} {c_l : Nat} (hr_l : RepS h a_l c_l l) {r : Bool} (H : lane_Yard_lanes n y l = some r) :
  Calls Try.prog 54 #[.agg cs_y.toArray, .slice a_l l.length c_l] w (Ret (fun h v => v = .bool r) h w) := by
 obtain ⟨_, _, rfl, ⟨p, s, rfl, ap⟩, ⟨_, _, rfl, ⟨z, aa, rfl, av⟩, rfl⟩⟩ := hx_y
 refine enter 43 [.agg (K54c1 p y s z aa), .c (.slice a_l l.length c_l)] Try.func54 rfl rfl rfl rfl fun t hk => ?_
 have hm := Mem.begin h w hh
 unfold lane_Yard_lanes at H
 refine wp_seq (wp_region_from (wl fun K hK => ?_))
 refine wb (.agg (K54c1 p y s z aa)) hk hm fun g du ex (ch : Kn 43 [(g, 0)] [(tP 2 0 0), (tA 0 (K54c1 p y s z aa)), (tS 1 a_l l.length c_l)] du) ad => hK _ _ ?_
 refine Rk 1 1 [(tP 2 0 0), (tS 1 a_l l.length c_l)] ch ad fun ea cm => ?_
 refine wf (wp_seq (wp_seq (wp_region_from (Rk 0 6 [(tB 13 (((l.length : Nat) : Int) != ((y.buses.length : Nat) : Int))), (tP 2 0 0), (tS 1 a_l l.length c_l)] cm ad fun ee a3 => ?_))))
 refine wf (wC ((((l.length : Nat) : Int) != ((y.buses.length : Nat) : Int))) a3 (fun a0 => ?_) (fun a0 => ?_))
 ·
  rw [a0, cond_true] at H
  refine wp_seq (wp_region_from (Rk 0 1 [(tB 4 false)] a3 ad fun eg cx => ?_))
  refine wf (wp_ret ?_)
  obtain rfl := Option.some.inj H
  exact rt (.one (.c (.bool false))) cx ad rfl
 ·
  rw [a0, cond_false] at H
  refine wp_skip (wp_seq (wp_region_from (Rk 0 2 [(tS 15 p y.room.length s), (tS 1 a_l l.length c_l)] a3 ad fun ei cy => ?_)))
  obtain ⟨x16, ex16, H⟩ := bnd H
  refine wl fun K hK => ?_
  refine wp_callO [.c (.slice p y.room.length s)] _ cy ad rfl rfl (by decide) (by rfl) rfl (fun _ _ => by kernel_rfl) (slices_Clone_int_int_own n ad.has y.room ap ex16) fun er ay dx d8 b6 a6 ao => ?_
  replace ap := ap.mono a6
  replace av := av.mono a6
  replace hr_l := hr_l.mono a6
  obtain ⟨ae, ag, b4, rfl, rfl, cf⟩ := b6
  replace ao : Mem ⟨w, h, noX⟩ ay [(g, 0)] [⟨(K54c1 p y s z aa), some 33⟩] [⟨ae, x16.length, ag, 3, 1, b4, 0⟩] dx := ao
  refine ⟨.one (.c (.slice ae x16.length ag)), rfl, fun ds (cz : Kn 43 [(g, 0)] [(tS 16 ae x16.length ag), (tS 15 p y.room.length s), (tS 1 a_l l.length c_l)] ds) => hK _ _ ?_⟩
  refine Rk 3 1 [(tS 5 ae x16.length ag), (tS 1 a_l l.length c_l)] cz ao fun ej c0 => ?_
  refine wf (wp_seq (wp_seq (wp_region_from (Rk 0 3 [(tI 19 0), (tI 18 ((l.length : Nat) : Int)), (tS 17 a_l l.length c_l), (tS 5 ae x16.length ag)] c0 ao fun ek c1 => ?_))))
  refine wf ?_
  obtain ⟨b1, bi, H⟩ := bnd H
  refine wp_mid' (fun a' w' => ∃ (ax : List Int) (bf : Option Addr) (bh : Nat) (be : List Value) (bb : Array Value) (aq : Heap), a' = ⟨bb, []⟩ ∧ Kn 43 [(g, 0)] [] bb ∧ Mem ⟨w, h, noX⟩ aq [(g, 0)] [⟨(K54c1 p y s z aa), some 33⟩] [⟨bf, ax.length, bh, 3, 1, be, 0⟩] w' ∧ Heap.le ay aq ∧ Cells aq ax be ∧ b1 = .go ax) ?_ ?_
  ·
   refine wp_block ?_
   refine wp_loop_n (fun dp a' w' => ∃ (x_v10 : List Int) (x_v11 : Int) (a : Option Addr) (d : Nat) (m : List Value) (bc : Array Value) (ak : Heap), a' = ⟨bc, []⟩ ∧ Kn 43 [(g, 0)] (K54m2 x_v11 l a_l c_l a x_v10 d) bc ∧ Mem ⟨w, h, noX⟩ ak [(g, 0)] [⟨(K54c1 p y s z aa), some 33⟩] [⟨a, x_v10.length, d, 3, 1, m, 0⟩] w' ∧ Heap.le ay ak ∧ Cells ak x_v10 m ∧ lane_Yard_lanes_l1 dp l x_v10 x_v11 = some b1) n ?_ ?_
   ·
    exact Exists.intro x16 ⟨0, ae, ag, b4, _, _, rfl, c1.kp, ao, (Heap.le_refl _), cf, bi⟩
   ·
    rintro aw _ ev ⟨x_v10, x_v11, a, d, m, bc, ak, rfl, c2, a9, am, u, f⟩
    clear bi
    obtain _ | aw := aw
    ·
     rw [lane_Yard_lanes_l1] at f; cases f
    rw [lane_Yard_lanes_l1] at f
    replace ap := ap.mono am
    replace av := av.mono am
    replace hr_l := hr_l.mono am
    refine wp_seq (wp_region_from (Rk 0 1 ((tB 20 (decide (x_v11 < ((l.length : Nat) : Int)))) :: (K54m2 x_v11 l a_l c_l a x_v10 d)) c2 a9 fun el a4 => ?_))
    refine wf (wp_seq (wC (decide (x_v11 < ((l.length : Nat) : Int))) a4 (fun a1 => ?_) (fun a1 => ?_)))
    ·
     rw [a1, cond_true] at f
     refine wp_skip (wp_seq (wp_block (wp_seq (wp_region_from ?_))))
     obtain ⟨x21, ex21, f⟩ := bnd f
     obtain ⟨de, df, dn⟩ := idx_some ex21
     obtain ⟨q, x, d1, b8, dj, cg⟩ := hr_l.get (by decide) dn
     obtain rfl := dj
     have au := a9.addPlc (b := q) (o := x + (x_v11 : Int).toNat * 1) (cs := [.int .i64 x21]) (fun j c hj => cg j _ (map_get hj)) rfl (by kernel_rfl) (by kernel_rfl)
     refine R_index 0 (x_v11) rfl rfl (rfl) rfl (by decide) a4 (by rfl) (by rfl) (by rfl) b8 (by rfl) de df (by kernel_rfl) fun dt (c3 : Kn 43 [(g, 0), (q, x + (x_v11 : Int).toNat * 1)] ((tP 21 1 0) :: (tB 20 (decide (x_v11 < ((l.length : Nat) : Int)))) :: (K54m2 x_v11 l a_l c_l a x_v10 d)) dt) => ?_
     refine Rk 1 2 ((tI 7 x21) :: (K54m2 x_v11 l a_l c_l a x_v10 d)) c3 au fun em c4 => ?_
     refine wf (wp_seq (wp_seq ?_))
     obtain ⟨b2, ab, f⟩ := bnd f
     refine wp_mid' (fun a' w' => ∃ (bd : Array Value) (ah : Heap), a' = ⟨bd, []⟩ ∧ Kn 43 [(g, 0), (q, x + (x_v11 : Int).toNat * 1)] [(tI 7 x21), (tI 19 x_v11), (tI 18 ((l.length : Nat) : Int)), (tS 17 a_l l.length c_l), (tS 5 a x_v10.length d), (tB 35 b2)] bd ∧ Mem ⟨w, h, noX⟩ ah [(g, 0), (q, x + (x_v11 : Int).toNat * 1)] [⟨(K54c1 p y s z aa), some 33⟩, ⟨[.int .i64 x21], none⟩] [⟨a, x_v10.length, d, 3, 1, m, 0⟩] w' ∧ Heap.le ak ah) ?_ ?_
     ·
      refine wp_region_from (Rk 0 4 ((tI 26 (IntKind.i64.wrap (((x_v10.length : Nat) : Int) - 1))) :: (tI 23 x21) :: (tI 7 x21) :: (K54m2 x_v11 l a_l c_l a x_v10 d)) c4 au fun en c5 => ?_)
      obtain ⟨x27, ex27, ab⟩ := bnd ab
      refine wl fun K hK => ?_
      refine wc [.c (.int .i64 x21), .c (.int .i64 0), .c (.int .i64 (IntKind.i64.wrap (((x_v10.length : Nat) : Int) - 1)))] c5 au (lane_within_ok aw au.has x21 0 (IntKind.i64.wrap (((x_v10.length : Nat) : Int) - 1)) ex27) fun es d2 ew b7 a7 ai => ?_
      replace u := u.mono a7
      obtain rfl := b7
      refine ⟨.one (.c (.bool x27)), rfl, fun dv (c6 : Kn 43 [(g, 0), (q, x + (x_v11 : Int).toNat * 1)] ((tB 27 x27) :: (tI 26 (IntKind.i64.wrap (((x_v10.length : Nat) : Int) - 1))) :: (tI 23 x21) :: (tI 7 x21) :: (K54m2 x_v11 l a_l c_l a x_v10 d)) dv) => hK _ _ ?_⟩
      refine Rk 5 2 ((tB 29 (!x27)) :: (tI 7 x21) :: (K54m2 x_v11 l a_l c_l a x_v10 d)) c6 ai fun b3 bm => ?_
      rcases Bool.eq_false_or_eq_true ((!x27)) with al | al
      ·
       rw [al, cond_true] at ab
       have c7 : Kn 43 [(g, 0), (q, x + (x_v11 : Int).toNat * 1)] ((tB 29 true) :: (tI 7 x21) :: (K54m2 x_v11 l a_l c_l a x_v10 d)) b3 := (bm.setB 29 true (by rfl) al).kp
       refine Rk 7 6 ((tB 35 true) :: (tI 7 x21) :: (K54m2 x_v11 l a_l c_l a x_v10 d)) c7 ai fun eo c8 => ?_
       refine wf ?_
       obtain rfl := Option.some.inj ab
       exact Exists.intro _ ⟨_, rfl, c8.kp, ai, a7⟩
      ·
       rw [al, cond_false] at ab
       have c9 : Kn 43 [(g, 0), (q, x + (x_v11 : Int).toNat * 1)] ((tB 29 false) :: (tI 7 x21) :: (K54m2 x_v11 l a_l c_l a x_v10 d)) b3 := (bm.setB 29 false (by rfl) al).kp
       refine Rk 7 2 ((tI 31 x21) :: (tS 30 a x_v10.length d) :: (tB 29 false) :: (tI 7 x21) :: (K54m2 x_v11 l a_l c_l a x_v10 d)) c9 ai fun ep bn => ?_
       obtain ⟨x32, ex32, ab⟩ := bnd ab
       obtain ⟨bs, bv, dk⟩ := idx_some ex32
       have da := lt_of_idx bs bv
       obtain ⟨dy, dg, b9⟩ := cells_get (sz := 1) rfl u dk
       obtain rfl := dg
       obtain ⟨bg, bj⟩ := row_addr ai (i := 0) rfl (b0 := 0 + (x21 : Int).toNat * 1) (Nat.lt_of_lt_of_le (Nat.lt_add_of_pos_right (by decide)) (cells_fit (sz := 1) rfl u da))
       have a8 := ai.addPlc (b := bg) (o := 0 + (x21 : Int).toNat * 1) (cs := []) (fun j c hj => by simp at hj) rfl (by kernel_rfl) (by kernel_rfl)
       have ca : ∀ (e : Env) k c, ([.int .i64 x32] : List SC)[k]? = some c → (m)[0 + (x21 : Int).toNat * 1 + k]? = some (c.den e) := fun e k c hk => b9 k _ (map_get hk)
       refine R_index 9 (x21) rfl rfl (wantedS_sound bn (by kernel_rfl)) rfl (by decide) bn (by rfl) (by rfl) (by rfl) bj (by rfl) bs bv (by kernel_rfl) fun dq (ci : Kn 43 [(g, 0), (q, x + (x_v11 : Int).toNat * 1), (bg, 0 + (x21 : Int).toNat * 1)] ((tP 32 2 0) :: (tI 31 x21) :: (tS 30 a x_v10.length d) :: (tB 29 false) :: (tI 7 x21) :: (K54m2 x_v11 l a_l c_l a x_v10 d)) dq) => ?_
       refine R_runk 10 3 [35, 7, 19, 18, 17, 5] ((tB 35 (x32 == 0)) :: (tI 7 x21) :: (K54m2 x_v11 l a_l c_l a x_v10 d)) ci (PlOk.peek a8.plOk a8 0 2 rfl rfl bj [.int .i64 x32] (ca _)) (by kernel_rfl) fun d9 cj => ?_
       refine wf ?_
       obtain rfl := Option.some.inj ab
       exact Exists.intro _ ⟨_, rfl, ((cj.keep [7, 19, 18, 17, 5, 35] (by rfl)).cut 2 (by kernel_rfl)), (a8.cutPl 2 (by kernel_rfl)), a7⟩
     ·
      rintro _ et ⟨bd, ah, rfl, a2, an, bo⟩
      replace u := u.mono bo
      refine wC (b2) a2 (fun az => ?_) (fun az => ?_)
      ·
       rw [cond_t az] at f
       refine wp_seq (wp_region_from (Rk 0 1 [(tB 4 false)] a2 an fun eb ck => ?_))
       refine wf (wp_ret ?_)
       obtain rfl := Option.some.inj f
       obtain rfl := Option.some.inj H
       exact rt (.one (.c (.bool false))) ck an rfl
      ·
       rw [cond_f az] at f
       refine wp_skip (wp_region_from (Rk 0 2 ((tI 37 x21) :: (tS 36 a x_v10.length d) :: (K54m2 x_v11 l a_l c_l a x_v10 d)) a2 an fun ec cl => ?_))
       obtain ⟨x38, ex38, f⟩ := bnd f
       obtain ⟨bt, bw, dl⟩ := idx_some ex38
       have db := lt_of_idx bt bw
       obtain ⟨dz, dh, cb⟩ := cells_get (sz := 1) rfl u dl
       obtain rfl := dh
       obtain ⟨af, bk⟩ := row_addr an (i := 0) rfl (b0 := 0 + (x21 : Int).toNat * 1) (Nat.lt_of_lt_of_le (Nat.lt_add_of_pos_right (by decide)) (cells_fit (sz := 1) rfl u db))
       have ar := an.addPlc (b := af) (o := 0 + (x21 : Int).toNat * 1) (cs := []) (fun j c hj => by simp at hj) rfl (by kernel_rfl) (by kernel_rfl)
       have cc : ∀ (e : Env) k c, ([.int .i64 x38] : List SC)[k]? = some c → (m)[0 + (x21 : Int).toNat * 1 + k]? = some (c.den e) := fun e k c hk => cb k _ (map_get hk)
       refine R_index 2 (x21) rfl rfl (rfl) rfl (by decide) cl (by rfl) (by rfl) (by rfl) bk (by rfl) bt bw (by kernel_rfl) fun dr (cn : Kn 43 [(g, 0), (q, x + (x_v11 : Int).toNat * 1), (af, 0 + (x21 : Int).toNat * 1)] ((tP 38 2 0) :: (tI 37 x21) :: (tS 36 a x_v10.length d) :: (K54m2 x_v11 l a_l c_l a x_v10 d)) dr) => ?_
       refine R_runk 3 2 [40, 37, 36, 19, 18, 17, 5] ((tI 40 (IntKind.i64.wrap (x38 - 1))) :: (tI 37 x21) :: (tS 36 a x_v10.length d) :: (K54m2 x_v11 l a_l c_l a x_v10 d)) cn (PlOk.peek ar.plOk ar 0 2 rfl rfl bk [.int .i64 x38] (cc _)) (by kernel_rfl) fun ed co => ?_
       obtain ⟨x41, ex41, f⟩ := bnd f
       obtain ⟨bu, bx, dm⟩ := idx_some ex41
       have a5 := lt_of_idx bu bx
       obtain ⟨d0, di, cd⟩ := cells_get (sz := 1) rfl u dm
       obtain rfl := di
       obtain ⟨aj, bl⟩ := row_addr ar (i := 0) rfl (b0 := 0 + (x21 : Int).toNat * 1) (Nat.lt_of_lt_of_le (Nat.lt_add_of_pos_right (by decide)) (cells_fit (sz := 1) rfl u a5))
       have dc := ar.addPlc (b := aj) (o := 0 + (x21 : Int).toNat * 1) (cs := []) (fun j c hj => by simp at hj) rfl (by kernel_rfl) (by kernel_rfl)
       have d3 : ∀ (e : Env) k c, ([.int .i64 x41] : List SC)[k]? = some c → (m)[0 + (x21 : Int).toNat * 1 + k]? = some (c.den e) := fun e k c hk => cd k _ (map_get hk)
       refine R_index 5 (x21) rfl rfl (rfl) rfl (by decide) co (by rfl) (by rfl) (by rfl) bl (by rfl) bu bx (by kernel_rfl) fun ba (cp : Kn 43 [(g, 0), (q, x + (x_v11 : Int).toNat * 1), (af, 0 + (x21 : Int).toNat * 1), (aj, 0 + (x21 : Int).toNat * 1)] ((tP 41 3 0) :: (tI 40 (IntKind.i64.wrap (x38 - 1))) :: (tI 37 x21) :: (tS 36 a x_v10.length d) :: (K54m2 x_v11 l a_l c_l a x_v10 d)) ba) => ?_
       obtain ⟨ac, b5, f⟩ := bnd f
       obtain ⟨d6, d7, bz⟩ := upd_some b5
       refine wl fun K hK => ?_
       refine wp_storeRow 0 3 0 (0 + (x21 : Int).toNat * 1) (.c (.int .i64 (IntKind.i64.wrap (x38 - 1)))) cp dc rfl rfl (by rfl) (by rfl) rfl rfl bl rfl (by kernel_rfl) (cells_fit (sz := 1) rfl u a5) fun dw cq dd => ?_
       have ce : Cells ah ac (m.take (0 + (x21 : Int).toNat * 1 + 0) ++ ([.int .i64 (IntKind.i64.wrap (x38 - 1))] : List Value) ++ m.drop (0 + (x21 : Int).toNat * 1 + 0 + 1)) := by rw [bz]; exact cells_set (sz := 1) rfl u a5 (rep_int : rep ah (IntKind.i64.wrap (x38 - 1) : Int) _)
       have br : x_v10.length = ac.length := by rw [bz]; simp
       have cr : Kn 43 [(g, 0), (q, x + (x_v11 : Int).toNat * 1), (af, 0 + (x21 : Int).toNat * 1), (aj, 0 + (x21 : Int).toNat * 1)] [(41, .one (.c (.ptr 3 0))), (40, .one (.c (.int .i64 (IntKind.i64.wrap (x38 - 1))))), (37, .one (.c (.int .i64 x21))), (36, .one (.c (.slice a ac.length d))), (19, .one (.c (.int .i64 x_v11))), (18, .one (.c (.int .i64 ((l.length : Nat) : Int)))), (17, .one (.c (.slice a_l l.length c_l))), (5, .one (.c (.slice a ac.length d)))] ba := by rw [← br]; exact cq
       have bp : Mem ⟨w, h, noX⟩ ah [(g, 0), (q, x + (x_v11 : Int).toNat * 1), (af, 0 + (x21 : Int).toNat * 1), (aj, 0 + (x21 : Int).toNat * 1)] [⟨[.slice p y.room.length s, .slice z y.buses.length aa, .int .i64 y.broken], some 33⟩, ⟨[.int .i64 x21], none⟩, ⟨[], none⟩, ⟨[], none⟩] [⟨a, ac.length, d, 3, 1, (m.take (0 + (x21 : Int).toNat * 1 + 0) ++ ([.int .i64 (IntKind.i64.wrap (x38 - 1))] : List Value) ++ m.drop (0 + (x21 : Int).toNat * 1 + 0 + 1)), 0⟩] dw := by rw [← br]; exact dd
       refine hK _ _ ?_
       have ct : Kn 43 [(g, 0), (q, x + (x_v11 : Int).toNat * 1), (af, 0 + (x21 : Int).toNat * 1), (aj, 0 + (x21 : Int).toNat * 1)] [(tI 19 x_v11), (tI 18 ((l.length : Nat) : Int)), (tS 17 a_l l.length c_l), (tS 5 a ac.length d)] ba := cr.kp
       refine wf (wp_region_from (Rk 0 2 [(tI 19 (IntKind.i64.wrap (x_v11 + 1))), (tI 18 ((l.length : Nat) : Int)), (tS 17 a_l l.length c_l), (tS 5 a ac.length d)] ct bp fun ef cu => ?_))
       refine wf ?_
       exact Exists.intro aw ⟨Nat.lt_succ_self _, Exists.intro ac ⟨(IntKind.i64.wrap (x_v11 + 1)), a, d, (m.take (0 + (x21 : Int).toNat * 1 + 0) ++ ([.int .i64 (IntKind.i64.wrap (x38 - 1))] : List Value) ++ m.drop (0 + (x21 : Int).toNat * 1 + 0 + 1)), _, _, rfl, ((cu.keep [19, 18, 17, 5] (by rfl)).cut 1 (by kernel_rfl)), (bp.cutPl 1 (by kernel_rfl)), (Heap.le_trans am bo), ce, f⟩⟩
    ·
     rw [a1, cond_false] at f
     refine wp_exit ?_
     obtain rfl := Option.some.inj f
     exact Exists.intro x_v10 ⟨a, d, m, _, _, rfl, a4.kp, a9, am, u, rfl⟩
  ·
   rintro _ eu ⟨ax, bf, bh, be, bb, aq, rfl, cv, bq, d5, d4, rfl⟩
   rw [Ex.bind_go] at H
   refine wp_seq (wp_region_from (Rk 0 1 [(tB 4 true)] cv bq fun eh cw => ?_))
   refine wf (wp_ret ?_)
   obtain rfl := Option.some.inj H
   exact rt (.one (.c (.bool true))) cw bq rfl
set_option maxRecDepth 100000 in
set_option maxHeartbeats 4000000 in
theorem slices_Max_int_int_ok (n : Nat) {h : Heap} {w : World} (hh : Has h w) (x : List Int) {a_x : Option Addr} {c_x : Nat} (hr_x : RepS h a_x c_x x) {r : Int} (H : slices_Max_int_int n x = some r) :
  Calls Try.prog 77 #[.slice a_x x.length c_x] w (Ret (fun h v => v = .int .i64 r) h w) := by
 refine enter 25 [.c (.slice a_x x.length c_x)] Try.func77 rfl rfl rfl rfl fun t hk => ?_
 have hm := Mem.begin h w hh
 unfold slices_Max_int_int at H
 refine wp_seq (wp_region_from (Rk 0 1 [(tS 0 a_x x.length c_x)] hk hm fun bc al => ?_))
 refine wf (wp_seq (wp_seq (wp_region_from (Rk 0 3 [(tB 7 (decide (((x.length : Nat) : Int) < 1))), (tS 0 a_x x.length c_x)] al hm fun bf ad => ?_))))
 refine wf (wC (decide (((x.length : Nat) : Int) < 1)) ad (fun m => ?_) (fun m => ?_))
 ·
  rw [m, cond_true] at H
  cases H
 ·
  rw [m, cond_false] at H
  refine wp_skip (wp_seq (wp_region_from (Rk 0 1 [(tS 9 a_x x.length c_x), (tS 0 a_x x.length c_x)] ad hm fun bk ax => ?_)))
  obtain ⟨x10, ex10, H⟩ := bnd H
  obtain ⟨ay, a0, a4⟩ := idx_some ex10
  obtain ⟨d, e, a9, ag, a2, ai⟩ := hr_x.get (by decide) a4
  obtain rfl := a2
  have s := hm.addPlc (b := d) (o := e + (0 : Int).toNat * 1) (cs := [.int .i64 x10]) (fun j c hj => ai j _ (map_get hj)) rfl (by kernel_rfl) (by kernel_rfl)
  refine R_index 1 (0) rfl rfl (rfl) rfl (by decide) ax (by rfl) (by rfl) (by rfl) ag (by rfl) ay a0 (by kernel_rfl) fun a7 (ak : Kn 25 [(d, e + (0 : Int).toNat * 1)] [(tP 10 0 0), (tS 9 a_x x.length c_x), (tS 0 a_x x.length c_x)] a7) => ?_
  refine Rk 2 2 [(tI 3 x10), (tS 0 a_x x.length c_x)] ak s fun bd am => ?_
  refine wf (wp_seq (wp_seq (wp_region_from (Rk 0 1 [(tI 4 1), (tI 3 x10), (tS 0 a_x x.length c_x)] am s fun be an => ?_))))
  refine wf ?_
  obtain ⟨g, ac, H⟩ := bnd H
  refine wp_mid' (fun a' w' => ∃ (z : Array Value) (i : Heap), a' = ⟨z, []⟩ ∧ Kn 25 [(d, e + (0 : Int).toNat * 1)] [(tI 3 g)] z ∧ Mem ⟨w, h, noX⟩ i [(d, e + (0 : Int).toNat * 1)] [⟨[.int .i64 x10], none⟩] [] w' ∧ Heap.le h i) ?_ ?_
  ·
   refine wp_block ?_
   refine wp_loop_n (fun a6 a' w' => ∃ (x_v10 : Int) (x_v11 : Int) (aa : Array Value) (k : Heap), a' = ⟨aa, []⟩ ∧ Kn 25 [(d, e + (0 : Int).toNat * 1)] [(tI 4 x_v10), (tI 3 x_v11), (tS 0 a_x x.length c_x)] aa ∧ Mem ⟨w, h, noX⟩ k [(d, e + (0 : Int).toNat * 1)] [⟨[.int .i64 x10], none⟩] [] w' ∧ Heap.le h k ∧ slices_Max_int_int_l1 a6 x x_v10 x_v11 = some g) n ?_ ?_
   ·
    exact Exists.intro 1 ⟨x10, _, _, rfl, an.kp, s, (Heap.le_refl _), ac⟩
   ·
    rintro y _ bm ⟨x_v10, x_v11, aa, k, rfl, ao, f, q, a⟩
    clear ac
    obtain _ | y := y
    ·
     rw [slices_Max_int_int_l1] at a; cases a
    rw [slices_Max_int_int_l1] at a
    replace hr_x := hr_x.mono q
    refine wp_seq (wp_seq (wp_region_from (Rk 0 4 [(tB 15 (decide (x_v10 < ((x.length : Nat) : Int)))), (tI 4 x_v10), (tI 3 x_v11), (tS 0 a_x x.length c_x)] ao f fun bg p => ?_)))
    refine wf (wC (decide (x_v10 < ((x.length : Nat) : Int))) p (fun l => ?_) (fun l => ?_))
    ·
     rw [l, cond_true] at a
     refine wp_skip (wp_seq (wp_block (wp_region_from (Rk 0 3 [(tI 20 x_v10), (tS 19 a_x x.length c_x), (tI 18 x_v11), (tI 4 x_v10), (tS 0 a_x x.length c_x)] p f fun bh ap => ?_))))
     obtain ⟨x21, ex21, a⟩ := bnd a
     obtain ⟨az, a1, a5⟩ := idx_some ex21
     obtain ⟨ab, af, ba, ah, a3, aj⟩ := hr_x.get (by decide) a5
     obtain rfl := a3
     have u := f.addPlc (b := ab) (o := af + (x_v10 : Int).toNat * 1) (cs := [.int .i64 x21]) (fun j c hj => aj j _ (map_get hj)) rfl (by kernel_rfl) (by kernel_rfl)
     refine R_index 3 (x_v10) rfl rfl (rfl) rfl (by decide) ap (by rfl) (by rfl) (by rfl) ah (by rfl) az a1 (by kernel_rfl) fun a8 (aq : Kn 25 [(d, e + (0 : Int).toNat * 1), (ab, af + (x_v10 : Int).toNat * 1)] [(tP 21 1 0), (tI 20 x_v10), (tS 19 a_x x.length c_x), (tI 18 x_v11), (tI 4 x_v10), (tS 0 a_x x.length c_x)] a8) => ?_
     refine Rk 4 3 [(tI 3 (if x21 > x_v11 then x21 else x_v11)), (tI 4 x_v10), (tS 0 a_x x.length c_x)] aq u fun bi ar => ?_
     refine wf (wp_region_from (Rk 0 3 [(tI 4 (IntKind.i64.wrap (x_v10 + 1))), (tI 3 (if x21 > x_v11 then x21 else x_v11)), (tS 0 a_x x.length c_x)] ar u fun bj au => ?_))
     refine wf ?_
     exact Exists.intro y ⟨Nat.lt_succ_self _, Exists.intro (IntKind.i64.wrap (x_v10 + 1)) ⟨(if x21 > x_v11 then x21 else x_v11), _, _, rfl, ((au.keep [4, 3, 0] (by rfl)).cut 1 (by kernel_rfl)), (u.cutPl 1 (by kernel_rfl)), q, a⟩⟩
    ·
     rw [l, cond_false] at a
     refine wp_exit ?_
     obtain rfl := Option.some.inj a
     exact Exists.intro _ ⟨_, rfl, p.kp, f, q⟩
  ·
   rintro _ bn ⟨z, i, rfl, av, ae, bb⟩
   refine wp_seq (wp_region_from (Rk 0 2 [(tI 2 g)] av ae fun bl aw => ?_))
   refine wf (wp_ret ?_)
   obtain rfl := Option.some.inj H
   exact rt (.one (.c (.int .i64 g))) aw ae rfl
set_option maxRecDepth 100000 in
set_option maxHeartbeats 4000000 in
theorem lane_latest_ok (n : Nat) {h : Heap} {w : World} (hh : Has h w) (l : List Int) {a_l : Option Addr} {c_l : Nat} (hr_l : RepS h a_l c_l l) {r : Int} (H : lane_latest n l = some r) :
  Calls Try.prog 52 #[.slice a_l l.length c_l] w (Ret (fun h v => v = .int .i64 r) h w) := by
 refine enter 5 [.c (.slice a_l l.length c_l)] Try.func52 rfl rfl rfl rfl fun t hk => ?_
 have hm := Mem.begin h w hh
 unfold lane_latest at H
 refine wp_seq (wp_region_from (Rk 0 1 [(tS 0 a_l l.length c_l)] hk hm fun m f => ?_))
 refine wf (wp_seq (wp_region_from (Rk 0 1 [(tS 3 a_l l.length c_l)] f hm fun p g => ?_)))
 obtain ⟨x4, ex4, H⟩ := bnd H
 refine wl fun K hK => ?_
 refine wc [.c (.slice a_l l.length c_l)] g hm (slices_Max_int_int_ok n hm.has l hr_l ex4) fun q j s b k a => ?_
 obtain rfl := b
 refine ⟨.one (.c (.int .i64 x4)), rfl, fun i (d : Kn 5 [] [(tI 4 x4), (tS 3 a_l l.length c_l)] i) => hK _ _ ?_⟩
 refine Rk 2 1 [(tI 2 x4)] d a fun o e => ?_
 refine wf (wp_ret ?_)
 obtain rfl := Option.some.inj H
 exact rt (.one (.c (.int .i64 x4))) e a rfl
set_option maxRecDepth 100000 in
set_option maxHeartbeats 4000000 in
theorem lane_Yard_bus_ok (n : Nat) {h : Heap} {w : World} (hh : Has h w) (y : Yard) {cs_y : List Value} (hx_y : rep h y cs_y) (n_ : Int) {r : Bool} (H : lane_Yard_bus n y n_ = some r) :
  Calls Try.prog 79 #[.agg cs_y.toArray, .int .i64 n_] w (Ret (fun h v => v = .bool r) h w) := by
 obtain ⟨_, _, rfl, ⟨b, e, rfl, z⟩, ⟨_, _, rfl, ⟨d, f, rfl, aa⟩, rfl⟩⟩ := hx_y
 refine enter 11 [.agg [.slice b y.room.length e, .slice d y.buses.length f, .int .i64 y.broken], .c (.int .i64 n_)] Try.func79 rfl rfl rfl rfl fun t hk => ?_
 have hm := Mem.begin h w hh
 unfold lane_Yard_bus at H
 refine wp_seq (wp_region_from (wl fun K hK => ?_))
 refine wb (.agg [.slice b y.room.length e, .slice d y.buses.length f, .int .i64 y.broken]) hk hm fun g s ag (k : Kn 11 [(g, 0)] [(tP 2 0 0), (tA 0 [.slice b y.room.length e, .slice d y.buses.length f, .int .i64 y.broken]), (tI 1 n_)] s) a => hK _ _ ?_
 refine Rk 1 1 [(tP 2 0 0), (tI 1 n_)] k a fun ab l => ?_
 refine wf (wp_seq (wp_region_from (Rk 0 5 [(tI 9 (IntKind.i64.wrap (((y.buses.length : Nat) : Int) - 1))), (tI 5 n_)] l a fun ac m => ?_)))
 obtain ⟨x10, ex10, H⟩ := bnd H
 refine wl fun K hK => ?_
 refine wc [.c (.int .i64 n_), .c (.int .i64 0), .c (.int .i64 (IntKind.i64.wrap (((y.buses.length : Nat) : Int) - 1)))] m a (lane_within_ok n a.has n_ 0 (IntKind.i64.wrap (((y.buses.length : Nat) : Int) - 1)) ex10) fun ae u af j x i => ?_
 obtain rfl := j
 refine ⟨.one (.c (.bool x10)), rfl, fun q (o : Kn 11 [(g, 0)] [(tB 10 x10), (tI 9 (IntKind.i64.wrap (((y.buses.length : Nat) : Int) - 1))), (tI 5 n_)] q) => hK _ _ ?_⟩
 refine Rk 6 1 [(tB 4 x10)] o i fun ad p => ?_
 refine wf (wp_ret ?_)
 obtain rfl := Option.some.inj H
 exact rt (.one (.c (.bool x10))) p i rfl
abbrev K61c1 (x52 : Bus) : List SC := [.int .i64 x52.lo, .int .i64 x52.hi, .int .i64 x52.turn]
abbrev K61e2 (a d e g k : Nat) (x_v10 : Int) : Env := [(a, 0), (d, 0), (e, 0), (g, k + (x_v10 : Int).toNat * 1)]
abbrev K61c3 (q : Option Addr) (y : Yard) (s : Nat) (m : Option Addr) (p : Nat) : List SC := [.slice q y.room.length s, .slice m y.buses.length p, .int .i64 y.broken]
abbrev K61c4 : List SC := [.int .i64 0, .int .i64 0, .int .i64 0, .int .i64 0, .int .i64 0, .int .i64 0, .int .i64 0, .int .i64 0]
abbrev K61e5 (a d e g k : Nat) (x_v10 : Int) (aa ac : Nat) (x22 : Int) : Env := [(a, 0), (d, 0), (e, 0), (g, k + (x_v10 : Int).toNat * 1), (aa, ac + (x22 : Int).toNat * 3)]
abbrev K61c6 (x_v13 : Some) : List SC := [.bool x_v13.a0, .bool x_v13.a1, .bool x_v13.a2, .bool x_v13.a3, .bool x_v13.a4, .bool x_v13.a5, .bool x_v13.a6, .bool x_v13.a7]
abbrev K61c7 (x : Some) : List SC := [.bool x.a0, .bool x.a1, .bool x.a2, .bool x.a3, .bool x.a4, .bool x.a5, .bool x.a6, .bool x.a7]
abbrev K61c8 (us0 : Places) : List SC := [.int .i64 us0.a0, .int .i64 us0.a1, .int .i64 us0.a2, .int .i64 us0.a3, .int .i64 us0.a4, .int .i64 us0.a5, .int .i64 us0.a6, .int .i64 us0.a7]
abbrev K61c9 (x_v12 : Places) : List SC := [.int .i64 x_v12.a0, .int .i64 x_v12.a1, .int .i64 x_v12.a2, .int .i64 x_v12.a3, .int .i64 x_v12.a4, .int .i64 x_v12.a5, .int .i64 x_v12.a6, .int .i64 x_v12.a7]
abbrev K61c10 (l : (Places × Some)) : List SC := [.int .i64 l.1.a0, .int .i64 l.1.a1, .int .i64 l.1.a2, .int .i64 l.1.a3, .int .i64 l.1.a4, .int .i64 l.1.a5, .int .i64 l.1.a6, .int .i64 l.1.a7]
abbrev K61m11 (x_v10 : Int) (order : List Int) (a_order : Option Addr) (c_order : Nat) (x_v11 : Int) : TM := [(tI 19 x_v10), (tI 18 ((order.length : Nat) : Int)), (tS 17 a_order order.length c_order), (tI 7 x_v11), (tP 6 2 0), (tP 4 1 0), (tP 2 0 0)]
abbrev K61m12 (x_v11 x_v10 x22 : Int) (order : List Int) (a_order : Option Addr) (c_order : Nat) : TM := [(tI 48 x_v11), (tI 47 x_v10), (tI 46 x22), (tI 19 x_v10), (tI 18 ((order.length : Nat) : Int)), (tS 17 a_order order.length c_order), (tP 6 2 0), (tP 4 1 0), (tP 2 0 0)]
abbrev K61m13 (x22 x_v10 : Int) (order : List Int) (a_order : Option Addr) (c_order : Nat) (x_v11 : Int) : TM := (tI 9 x22) :: (tI 8 x_v10) :: (K61m11 x_v10 order a_order c_order x_v11)
set_option maxRecDepth 100000 in
set_option maxHeartbeats 4000000 in
theorem lane_Yard_possible_ok (n : Nat) {h : Heap} {w : World} (hh : Has h w) (y : Yard) {cs_y : List Value} (hx_y : rep h y cs_y) (order : List Int) {a_order : Option Addr} {c_order : Nat} (hr_order : RepS h a_order c_order order) {r : Places × Bool} (H : lane_Yard_possible n y order = some r) :
  Calls Try.prog 61 #[.agg cs_y.toArray, .slice a_order order.length c_order] w (Ret (fun h v => ∃ v0 v1, v = .tuple #[v0, v1] ∧ (∃ cs, v0 = .agg cs.toArray ∧ rep h r.1 cs) ∧ (v1 = .bool r.2)) h w) := by
 obtain ⟨_, _, rfl, ⟨q, s, rfl, al⟩, ⟨_, _, rfl, ⟨m, p, rfl, ab⟩, rfl⟩⟩ := hx_y
 refine enter 60 [.agg (K61c3 q y s m p), .c (.slice a_order order.length c_order)] Try.func61 rfl rfl rfl rfl fun t hk => ?_
 have hm := Mem.begin h w hh
 unfold lane_Yard_possible at H
 refine wp_seq (wp_region_from (wl fun K hK => ?_))
 refine wb (.agg (K61c3 q y s m p)) hk hm fun a eo f5 (cg : Kn 60 [(a, 0)] [(tP 2 0 0), (tA 0 (K61c3 q y s m p)), (tS 1 a_order order.length c_order)] eo) dr => hK _ _ ?_
 refine wl fun K hK => ?_
 refine wa K61c4 cg dr fun d ei fv (ct : Kn 60 [(a, 0), (d, 0)] [(tP 4 1 0), (tP 2 0 0), (tA 0 (K61c3 q y s m p)), (tS 1 a_order order.length c_order)] ei) ak => hK _ _ ?_
 refine Rk 2 1 [(tP 4 1 0), (tP 2 0 0), (tS 1 a_order order.length c_order)] ct ak fun fb cz => ?_
 refine wf (wp_seq (wp_seq (wp_region_from (Rk 0 6 [(tB 15 (((order.length : Nat) : Int) != ((y.buses.length : Nat) : Int))), (tP 4 1 0), (tP 2 0 0), (tS 1 a_order order.length c_order)] cz ak fun fc a9 => ?_))))
 refine wf (wC ((((order.length : Nat) : Int) != ((y.buses.length : Nat) : Int))) a9 (fun ax => ?_) (fun ax => ?_))
 ·
  rw [ax, cond_true] at H
  refine wp_seq (wp_region_from (Rk 0 1 [(tA 16 K61c4), (tP 4 1 0)] a9 ak fun fh c8 => ?_))
  refine wl fun K hK => ?_
  refine wst 1 0 (.agg K61c4) K61c4 c8 ak fun f1 c9 bz => hK _ _ ?_
  refine Rk 2 1 [(tB 5 false), (tP 4 1 0)] c9 bz fun fi da => ?_
  refine wf (wp_ret ?_)
  obtain rfl := Option.some.inj H
  exact rt (.tup [.agg K61c4, .c (.bool false)]) da bz ⟨_, _, rfl, ⟨_, rfl, ((rep_pair rep_int (rep_pair rep_int (rep_pair rep_int (rep_pair rep_int (rep_pair rep_int (rep_pair rep_int (rep_pair rep_int rep_int))))))) : rep h ((Places.mk 0 0 0 0 0 0 0 0) : Places) _)⟩, rfl⟩
 ·
  rw [ax, cond_false] at H
  refine wp_skip (wp_seq (wp_region_from (wl fun K hK => ?_)))
  refine wa [.bool false, .bool false, .bool false, .bool false, .bool false, .bool false, .bool false, .bool false] a9 ak fun e b5 f2 (db : Kn 60 [(a, 0), (d, 0), (e, 0)] [(tP 6 2 0), (tB 15 (((order.length : Nat) : Int) != ((y.buses.length : Nat) : Int))), (tP 4 1 0), (tP 2 0 0), (tS 1 a_order order.length c_order)] b5) bg => hK _ _ ?_
  have dc : Kn 60 [(a, 0), (d, 0), (e, 0)] [(tP 6 2 0), (tP 4 1 0), (tP 2 0 0), (tS 1 a_order order.length c_order)] b5 := db.kp
  refine wf (wp_seq (wp_region_from (Rk 0 1 [(tI 7 0), (tP 6 2 0), (tP 4 1 0), (tP 2 0 0), (tS 1 a_order order.length c_order)] dc bg fun fj dd => ?_)))
  refine wf (wp_seq (wp_seq (wp_region_from (Rk 0 3 [(tI 19 0), (tI 18 ((order.length : Nat) : Int)), (tS 17 a_order order.length c_order), (tI 7 0), (tP 6 2 0), (tP 4 1 0), (tP 2 0 0)] dd bg fun fk de => ?_))))
  refine wf ?_
  obtain ⟨b0, bl, H⟩ := bnd H
  refine wp_mid' (fun a' w' => ∃ (l : Places × Some) (bh : Array Value) (an : Heap), a' = ⟨bh, []⟩ ∧ Kn 60 [(a, 0), (d, 0), (e, 0)] [(tP 4 1 0)] bh ∧ Mem ⟨w, h, noX⟩ an [(a, 0), (d, 0), (e, 0)] [⟨(K61c3 q y s m p), some 33⟩, ⟨(K61c10 l), some 72⟩, ⟨[.bool l.2.a0, .bool l.2.a1, .bool l.2.a2, .bool l.2.a3, .bool l.2.a4, .bool l.2.a5, .bool l.2.a6, .bool l.2.a7], some 74⟩] [] w' ∧ Heap.le h an ∧ b0 = .go l) ?_ ?_
  ·
   refine wp_block ?_
   refine wp_loop_n (fun ef a' w' => ∃ (x_v10 : Int) (x_v11 : Int) (x_v12 : Places) (x_v13 : Some) (bi : Array Value) (af : Heap), a' = ⟨bi, []⟩ ∧ Kn 60 [(a, 0), (d, 0), (e, 0)] (K61m11 x_v10 order a_order c_order x_v11) bi ∧ Mem ⟨w, h, noX⟩ af [(a, 0), (d, 0), (e, 0)] [⟨(K61c3 q y s m p), some 33⟩, ⟨(K61c9 x_v12), some 72⟩, ⟨(K61c6 x_v13), some 74⟩] [] w' ∧ Heap.le h af ∧ lane_Yard_possible_l1 ef y order x_v10 x_v11 x_v12 x_v13 = some b0) n ?_ ?_
   ·
    exact Exists.intro 0 ⟨0, (Places.mk 0 0 0 0 0 0 0 0), (Some.mk false false false false false false false false), _, _, rfl, de.kp, bg, (Heap.le_refl _), bl⟩
   ·
    rintro am _ f3 ⟨x_v10, x_v11, x_v12, x_v13, bi, af, rfl, df, au, ai, f⟩
    clear bl
    obtain _ | am := am
    ·
     rw [lane_Yard_possible_l1] at f; cases f
    rw [lane_Yard_possible_l1] at f
    replace al := al.mono ai
    replace ab := ab.mono ai
    replace hr_order := hr_order.mono ai
    refine wp_seq (wp_region_from (Rk 0 1 ((tB 20 (decide (x_v10 < ((order.length : Nat) : Int)))) :: (K61m11 x_v10 order a_order c_order x_v11)) df au fun fl ba => ?_))
    refine wf (wp_seq (wC (decide (x_v10 < ((order.length : Nat) : Int))) ba (fun ay => ?_) (fun ay => ?_)))
    ·
     rw [ay, cond_true] at f
     refine wp_skip (wp_seq (wp_block (wp_seq (wp_region_from (Rk 0 1 ((tI 21 x_v10) :: (K61m11 x_v10 order a_order c_order x_v11)) ba au fun fm dg => ?_)))))
     obtain ⟨x22, ex22, f⟩ := bnd f
     obtain ⟨dw, d2, ed⟩ := idx_some ex22
     obtain ⟨g, k, ev, cc, d8, cf⟩ := hr_order.get (by decide) ed
     obtain rfl := d8
     have av := au.addPlc (b := g) (o := k + (x_v10 : Int).toNat * 1) (cs := [.int .i64 x22]) (fun j c hj => cf j _ (map_get hj)) rfl (by kernel_rfl) (by kernel_rfl)
     refine R_index 1 (x_v10) rfl rfl (rfl) rfl (by decide) dg (by rfl) (by rfl) (by rfl) cc (by rfl) dw d2 (by kernel_rfl) fun en (dh : Kn 60 (K61e2 a d e g k x_v10) ((tP 22 3 0) :: (tI 21 x_v10) :: (K61m11 x_v10 order a_order c_order x_v11)) en) => ?_
     refine Rk 2 3 (K61m13 x22 x_v10 order a_order c_order x_v11) dh av fun fn di => ?_
     refine wf (wp_seq (wp_seq ?_))
     obtain ⟨b1, u, f⟩ := bnd f
     refine wp_mid' (fun a' w' => ∃ (bj : Array Value) (ad : Heap), a' = ⟨bj, []⟩ ∧ Kn 60 (K61e2 a d e g k x_v10) [(tI 9 x22), (tI 8 x_v10), (tI 19 x_v10), (tI 18 ((order.length : Nat) : Int)), (tS 17 a_order order.length c_order), (tI 7 x_v11), (tP 6 2 0), (tP 4 1 0), (tP 2 0 0), (tB 42 b1)] bj ∧ Mem ⟨w, h, noX⟩ ad (K61e2 a d e g k x_v10) [⟨(K61c3 q y s m p), some 33⟩, ⟨(K61c9 x_v12), some 72⟩, ⟨(K61c6 x_v13), some 74⟩, ⟨[.int .i64 x22], none⟩] [] w' ∧ Heap.le af ad) ?_ ?_
     ·
      refine wp_region_from (Rk 0 2 ((tI 25 x22) :: (tA 24 (K61c3 q y s m p)) :: (K61m13 x22 x_v10 order a_order c_order x_v11)) di av fun fo dj => ?_)
      obtain ⟨x26, ex26, u⟩ := bnd u
      refine wl fun K hK => ?_
      refine wc [.agg (K61c3 q y s m p), .c (.int .i64 x22)] dj av (lane_Yard_bus_ok am av.has y ((rep_pair (rep_slice al) (rep_pair (rep_slice ab) rep_int)) : rep af y _) x22 ex26) fun fs ex f4 b9 ap z => ?_
      replace ab := ab.mono ap
      obtain rfl := b9
      refine ⟨.one (.c (.bool x26)), rfl, fun ep (dk : Kn 60 (K61e2 a d e g k x_v10) ((tB 26 x26) :: (tI 25 x22) :: (tA 24 (K61c3 q y s m p)) :: (K61m13 x22 x_v10 order a_order c_order x_v11)) ep) => hK _ _ ?_⟩
      refine Rk 3 2 ((tB 28 (!x26)) :: (K61m13 x22 x_v10 order a_order c_order x_v11)) dk z fun b6 br => ?_
      rcases Bool.eq_false_or_eq_true ((!x26)) with ah | ah
      ·
       rw [ah, cond_true] at u
       have dl : Kn 60 (K61e2 a d e g k x_v10) ((tB 28 true) :: (K61m13 x22 x_v10 order a_order c_order x_v11)) b6 := (br.setB 28 true (by rfl) ah).kp
       refine Rk 5 14 ((tB 42 true) :: (K61m13 x22 x_v10 order a_order c_order x_v11)) dl z fun fp dm => ?_
       refine wf ?_
       obtain rfl := Option.some.inj u
       exact Exists.intro _ ⟨_, rfl, dm.kp, z, ap⟩
      ·
       rw [ah, cond_false] at u
       have dp : Kn 60 (K61e2 a d e g k x_v10) ((tB 28 false) :: (K61m13 x22 x_v10 order a_order c_order x_v11)) b6 := (br.setB 28 false (by rfl) ah).kp
       refine Rk 5 1 ((tI 29 x22) :: (tB 28 false) :: (K61m13 x22 x_v10 order a_order c_order x_v11)) dp z fun fq bb => ?_
       obtain ⟨x30, ex30, u⟩ := bnd u
       obtain ⟨dx, d3⟩ := rng_some ex30
       refine R_one 6 (.one (.c (.ptr 2 (0 + (x22 : Int).toNat * 1)))) rfl (wantedS_sound bb (by kernel_rfl)) rfl (run_indexA (E := 4) bb rfl (by kernel_rfl) (by kernel_rfl) (by rfl) (by rfl) dx d3) (bb.put (by decide) _) fun er (bc : Kn 60 (K61e2 a d e g k x_v10) ((tP 30 2 (0 + (x22 : Int).toNat * 1)) :: (tI 29 x22) :: (tB 28 false) :: (K61m13 x22 x_v10 order a_order c_order x_v11)) er) => ?_
       obtain ⟨x31, ex31, u⟩ := bnd u
       obtain ⟨_, _, ee⟩ := idx_some ex31
       refine R_one 7 (.one (.c (.bool x31))) rfl (wantedS_sound bc (by kernel_rfl)) rfl (run_loadAt1 bc z.plOk rfl (by rfl) rfl (by kernel_rfl) (arr_get (fun (y : Bool) => ([.bool y] : List SC)) 1 (fun _ => rfl) [] [] x_v13.toL _ _ ee rfl rfl)) (bc.put (by decide) _) fun eg (ch : Kn 60 (K61e2 a d e g k x_v10) ((tB 31 x31) :: (tP 30 2 (0 + (x22 : Int).toNat * 1)) :: (tI 29 x22) :: (tB 28 false) :: (K61m13 x22 x_v10 order a_order c_order x_v11)) eg) => ?_
       refine Rk 8 2 ((tB 33 x31) :: (K61m13 x22 x_v10 order a_order c_order x_v11)) ch z fun b3 bn => ?_
       rcases Bool.eq_false_or_eq_true (x31) with ag | ag
       ·
        rw [cond_t ag] at u
        have ci : Kn 60 (K61e2 a d e g k x_v10) ((tB 33 true) :: (K61m13 x22 x_v10 order a_order c_order x_v11)) b3 := (bn.setB 33 true (by rfl) ag).kp
        refine Rk 10 9 ((tB 42 true) :: (K61m13 x22 x_v10 order a_order c_order x_v11)) ci z fun e3 cj => ?_
        refine wf ?_
        obtain rfl := Option.some.inj u
        exact Exists.intro _ ⟨_, rfl, cj.kp, z, ap⟩
       ·
        rw [cond_f ag] at u
        have ck : Kn 60 (K61e2 a d e g k x_v10) ((tB 33 false) :: (K61m13 x22 x_v10 order a_order c_order x_v11)) b3 := (bn.setB 33 false (by rfl) ag).kp
        refine Rk 10 3 ((tI 36 x22) :: (tS 35 m y.buses.length p) :: (tB 33 false) :: (K61m13 x22 x_v10 order a_order c_order x_v11)) ck z fun e4 bo => ?_
        obtain ⟨x37, ex37, u⟩ := bnd u
        obtain ⟨ds, dy, d9⟩ := idx_some ex37
        obtain ⟨bk, b2, et, ca, d6, cd⟩ := ab.get (by decide) d9
        obtain ⟨_, _, rfl, rfl, ⟨_, _, rfl, rfl, rfl⟩⟩ := d6
        have bt := z.addPlc (b := bk) (o := b2 + (x22 : Int).toNat * 3) (cs := [.int .i64 x37.lo, .int .i64 x37.hi, .int .i64 x37.turn]) (fun j c hj => cd j _ (map_get hj)) rfl (by kernel_rfl) (by kernel_rfl)
        refine R_index 13 (x22) rfl rfl (wantedS_sound bo (by kernel_rfl)) rfl (by decide) bo (by rfl) (by rfl) (by rfl) ca (by rfl) ds dy (by kernel_rfl) fun eh (cl : Kn 60 [(a, 0), (d, 0), (e, 0), (g, k + (x_v10 : Int).toNat * 1), (bk, b2 + (x22 : Int).toNat * 3)] ((tP 37 4 0) :: (tI 36 x22) :: (tS 35 m y.buses.length p) :: (tB 33 false) :: (K61m13 x22 x_v10 order a_order c_order x_v11)) eh) => ?_
        refine Rk 14 5 ((tB 42 (decide (x37.hi < x_v11))) :: (K61m13 x22 x_v10 order a_order c_order x_v11)) cl bt fun e5 cm => ?_
        refine wf ?_
        obtain rfl := Option.some.inj u
        exact Exists.intro _ ⟨_, rfl, ((cm.keep [9, 8, 19, 18, 17, 7, 6, 4, 2, 42] (by rfl)).cut 4 (by kernel_rfl)), (bt.cutPl 4 (by kernel_rfl)), ap⟩
     ·
      rintro _ ft ⟨bj, ad, rfl, a8, aq, ao⟩
      replace al := al.mono ao
      replace ab := ab.mono ao
      replace hr_order := hr_order.mono ao
      refine wC (b1) a8 (fun aw => ?_) (fun aw => ?_)
      ·
       rw [cond_t aw] at f
       refine wp_seq (wp_region_from (Rk 0 1 [(tA 43 (K61c9 x_v12)), (tP 4 1 0)] a8 aq fun e6 cn => ?_))
       refine wl fun K hK => ?_
       refine wst 1 0 (.agg (K61c9 x_v12)) (K61c9 x_v12) cn aq fun fu co bu => hK _ _ ?_
       refine Rk 2 1 [(tB 5 false), (tP 4 1 0)] co bu fun e7 cp => ?_
       refine wf (wp_ret ?_)
       obtain rfl := Option.some.inj f
       obtain rfl := Option.some.inj H
       exact rt (.tup [.agg (K61c9 x_v12), .c (.bool false)]) cp bu ⟨_, _, rfl, ⟨_, rfl, ((rep_pair rep_int (rep_pair rep_int (rep_pair rep_int (rep_pair rep_int (rep_pair rep_int (rep_pair rep_int (rep_pair rep_int rep_int))))))) : rep ad (x_v12 : Places) _)⟩, rfl⟩
      ·
       rw [cond_f aw] at f
       refine wp_skip (wp_seq (wp_region_from (Rk 0 1 ((tI 44 x22) :: (K61m13 x22 x_v10 order a_order c_order x_v11)) a8 aq fun e8 bp => ?_)))
       obtain ⟨x45, ex45, f⟩ := bnd f
       obtain ⟨dt, dz⟩ := rng_some ex45
       refine R_one 1 (.one (.c (.ptr 2 (0 + (x22 : Int).toNat * 1)))) rfl (rfl) rfl (run_indexA (E := 4) bp rfl (by kernel_rfl) (by kernel_rfl) (by rfl) (by rfl) dt dz) (bp.put (by decide) _) fun b4 (cq : Kn 60 (K61e2 a d e g k x_v10) ((tP 45 2 (0 + (x22 : Int).toNat * 1)) :: (tI 44 x22) :: (K61m13 x22 x_v10 order a_order c_order x_v11)) b4) => ?_
       obtain ⟨x, b7, f⟩ := bnd f
       obtain ⟨ez, e1, ea⟩ := Some.setI_some b7
       refine wl fun K hK => ?_
       refine wp_store 2 (0 + (x22 : Int).toNat * 1) (.c (.bool true)) (K61c7 x) cq aq rfl rfl (by rfl) (by rfl) (by rfl) (by kernel_rfl) (by refine decide_eq_true ?_; show (0 + (x22 : Int).toNat * 1) + 1 ≤ 8; omega) (arr_set (fun (y : Bool) => ([.bool y] : List SC)) 1 (fun _ => rfl) [] [] x_v13.toL x.toL (x22 : Int).toNat true ea (show (x22 : Int).toNat < 8 by omega) rfl rfl rfl) fun fw cr aj => hK _ _ ?_
       have cu : Kn 60 (K61e2 a d e g k x_v10) (K61m13 x22 x_v10 order a_order c_order x_v11) b4 := cr.kp
       refine wf (wp_region_G (by kernel_rfl) ?_)
       replace aj := aj.drew
       refine wpG_of_D [] (K61e2 a d e g k x_v10) [⟨(K61c3 q y s m p), some 33⟩, ⟨(K61c9 x_v12), some 72⟩, ⟨(K61c7 x), some 74⟩, ⟨[.int .i64 x22], none⟩] ?_
       refine Dr [0, 1, 2, 3, 4, 5] (dn 5) ((tI 51 x22) :: (tS 50 m y.buses.length p) :: (K61m12 x_v11 x_v10 x22 order a_order c_order)) cu aj fun e9 cv => ?_
       obtain ⟨x52, ex52, f⟩ := bnd f
       obtain ⟨du, d0, eb⟩ := idx_some ex52
       obtain ⟨aa, ac, eu, cb, d7, ce⟩ := ab.get (by decide) eb
       obtain ⟨_, _, rfl, rfl, ⟨_, _, rfl, rfl, rfl⟩⟩ := d7
       have bd := aj.addPlc (b := aa) (o := ac + (x22 : Int).toNat * 3) (cs := (K61c1 x52)) (fun j c hj => ce j _ (map_get hj)) rfl (by kernel_rfl) (by kernel_rfl)
       refine D_index 6 (x22) (K61c1 x52) (fun _ _ _ _ _ h => h) rfl rfl (rfl) rfl (by decide) (by kernel_rfl) (by kernel_rfl) cv aj.plOk (by rfl) (by rfl) (by rfl) cb (by rfl) du d0 (by kernel_rfl) fun ej (cw : Kn 60 (K61e5 a d e g k x_v10 aa ac x22) ((tP 52 4 0) :: (tI 51 x22) :: (tS 50 m y.buses.length p) :: (K61m12 x_v11 x_v10 x22 order a_order c_order)) ej) => ?_
       refine Dr [7, 8] (dn 8) ((tI 54 x52.lo) :: (K61m12 x_v11 x_v10 x22 order a_order c_order)) cw bd fun fa bq => ?_
       obtain ⟨x57, ex57, f⟩ := bnd f
       obtain ⟨dv, d1⟩ := rng_some ex57
       refine D_one 11 (.one (.c (.ptr 1 (0 + (x22 : Int).toNat * 1)))) (fun _ _ _ _ _ h => h) rfl (by kernel_rfl) (by kernel_rfl) (rfl) rfl bd.plOk (fun _ h => h) (fun w => run_indexA (E := 3) bq rfl (by kernel_rfl) (by kernel_rfl) (by rfl) (by rfl) dv d1) (bq.put (by decide) _) fun ek (cx : Kn 60 (K61e5 a d e g k x_v10 aa ac x22) ((tP 57 1 (0 + (x22 : Int).toNat * 1)) :: (tI 54 x52.lo) :: (K61m12 x_v11 x_v10 x22 order a_order c_order)) ek) => ?_
       refine Dl 9 fun K hK => ?_
       refine wS 3 1 [.int .i64 x_v11, .int .i64 x52.lo] cx bd fun ae el es (cy : Kn 60 (K61e5 a d e g k x_v10 aa ac x22) ((tS 55 ae 2 2) :: (tP 57 1 (0 + (x22 : Int).toNat * 1)) :: (tI 54 x52.lo) :: (K61m12 x_v11 x_v10 x22 order a_order c_order)) el) be => ?_
       have az : Cells ad ([x_v11, x52.lo] : List Int) ([.int .i64 x_v11, .int .i64 x52.lo] : List Value) := ⟨_, _, rfl, (rep_int : rep ad (x_v11 : Int) _), ⟨_, _, rfl, (rep_int : rep ad (x52.lo : Int) _), rfl⟩⟩
       refine hK _ _ be.plOk ?_
       obtain ⟨bm, bs, d5, ar⟩ := be.settle (i := 0) rfl
       replace az := az.mono bs
       replace ar : Mem ⟨w, h, noX⟩ bm (K61e5 a d e g k x_v10 aa ac x22) [⟨(K61c3 q y s m p), some 33⟩, ⟨(K61c9 x_v12), some 72⟩, ⟨(K61c7 x), some 74⟩, ⟨[.int .i64 x22], none⟩, ⟨(K61c1 x52), none⟩] [⟨ae, 2, 2, 3, 1, ([.int .i64 x_v11, .int .i64 x52.lo] : List Value), (([.int .i64 x_v11, .int .i64 x52.lo] : List Value) : List Value).length⟩] es := ar
       have d4 : RepS bm ae 2 ([x_v11, x52.lo] : List Int) := ⟨_, az, d5, be.rowCap (i := 0) rfl⟩
       obtain ⟨x56, ex56, f⟩ := bnd f
       refine Dl 10 fun K hK => ?_
       refine wc [.c (.slice ae 2 2)] cy ar (lane_latest_ok am ar.has ([x_v11, x52.lo] : List Int) d4 ex56) fun fr ew fx b8 dq bv => ?_
       obtain rfl := b8
       refine ⟨.one (.c (.int .i64 x56)), rfl, fun em (c0 : Kn 60 (K61e5 a d e g k x_v10 aa ac x22) ((tI 56 x56) :: (tS 55 ae 2 2) :: (tP 57 1 (0 + (x22 : Int).toNat * 1)) :: (tI 54 x52.lo) :: (K61m12 x_v11 x_v10 x22 order a_order c_order)) em) => hK _ _ bv.plOk ?_⟩
       obtain ⟨us0, eus0, f⟩ := bnd f
       obtain ⟨e0, e2, ec⟩ := Places.setI_some eus0
       refine D_sync 12 rfl (by kernel_rfl) (by decide) (rfl) (by kernel_rfl) fun K hK => ?_
       refine wp_store 1 (0 + (x22 : Int).toNat * 1) (.c (.int .i64 x_v10)) (K61c8 us0) c0 bv rfl rfl (by rfl) (by rfl) (by rfl) (by kernel_rfl) (by refine decide_eq_true ?_; show (0 + (x22 : Int).toNat * 1) + 1 ≤ 8; omega) (arr_set (fun (y : Int) => ([.int .i64 y] : List SC)) 1 (fun _ => rfl) [] [] x_v12.toL us0.toL (x22 : Int).toNat x_v10 ec (show (x22 : Int).toNat < 8 by omega) rfl rfl rfl) fun fy c1 bf => hK _ _ ?_
       refine wpG_of_D [] (K61e5 a d e g k x_v10 aa ac x22) [⟨(K61c3 q y s m p), some 33⟩, ⟨(K61c8 us0), some 72⟩, ⟨(K61c7 x), some 74⟩, ⟨[.int .i64 x22], none⟩, ⟨(K61c1 x52), none⟩] ?_
       refine Dr [13] [13, 12, 10, 9, 11, 8, 7, 6, 5, 4, 3, 2, 1, 0] [(tI 7 x56), (tI 19 x_v10), (tI 18 ((order.length : Nat) : Int)), (tS 17 a_order order.length c_order), (tP 6 2 0), (tP 4 1 0), (tP 2 0 0)] c1 bf fun fd c2 => ?_
       refine wpD_end (by kernel_rfl) (wp_region_from (Rk 0 2 [(tI 19 (IntKind.i64.wrap (x_v10 + 1))), (tI 7 x56), (tI 18 ((order.length : Nat) : Int)), (tS 17 a_order order.length c_order), (tP 6 2 0), (tP 4 1 0), (tP 2 0 0)] c2 bf fun fe c3 => ?_))
       refine wf ?_
       exact Exists.intro am ⟨Nat.lt_succ_self _, Exists.intro (IntKind.i64.wrap (x_v10 + 1)) ⟨x56, us0, x, _, _, rfl, ((c3.keep [19, 18, 17, 7, 6, 4, 2] (by rfl)).cut 3 (by kernel_rfl)), ((bf.cutRw 0).cutPl 3 (by kernel_rfl)), (Heap.le_trans ai (Heap.le_trans ao (Heap.le_trans bs dq))), f⟩⟩
    ·
     rw [ay, cond_false] at f
     refine wp_exit ?_
     obtain rfl := Option.some.inj f
     exact Exists.intro (x_v12, x_v13) ⟨_, _, rfl, ba.kp, au, ai, rfl⟩
  ·
   rintro _ fz ⟨l, bh, an, rfl, c4, bw, ey, rfl⟩
   rw [Ex.bind_go] at H
   refine wp_seq (wp_region_from (Rk 0 1 [(tA 59 (K61c10 l)), (tP 4 1 0)] c4 bw fun ff c5 => ?_))
   refine wl fun K hK => ?_
   refine wst 1 0 (.agg (K61c10 l)) (K61c10 l) c5 bw fun f0 c6 bx => hK _ _ ?_
   refine Rk 2 1 [(tB 5 true), (tP 4 1 0)] c6 bx fun fg c7 => ?_
   refine wf (wp_ret ?_)
   obtain rfl := Option.some.inj H
   exact rt (.tup [.agg (K61c10 l), .c (.bool true)]) c7 bx ⟨_, _, rfl, ⟨_, rfl, ((rep_pair rep_int (rep_pair rep_int (rep_pair rep_int (rep_pair rep_int (rep_pair rep_int (rep_pair rep_int (rep_pair rep_int rep_int))))))) : rep an (l.1 : Places) _)⟩, rfl⟩
abbrev K62e1 (d e m p : Nat) (x_v10 : Int) : Env := [(d, 0), (e, 0), (m, p + (x_v10 : Int).toNat * 1)]
abbrev K62c2 (g : Option Addr) (y : Yard) (k : Nat) (i : Option Addr) (l : Nat) : List SC := [.slice g y.room.length k, .slice i y.buses.length l, .int .i64 y.broken]
abbrev K62c3 (a : Some) : List SC := [.bool a.a0, .bool a.a1, .bool a.a2, .bool a.a3, .bool a.a4, .bool a.a5, .bool a.a6, .bool a.a7]
abbrev K62c4 (x_v12 : Some) : List SC := [.bool x_v12.a0, .bool x_v12.a1, .bool x_v12.a2, .bool x_v12.a3, .bool x_v12.a4, .bool x_v12.a5, .bool x_v12.a6, .bool x_v12.a7]
abbrev K62m5 (x_v10 : Int) (broken : List Int) (a_broken : Option Addr) (c_broken : Nat) (x_v11 : Int) : TM := [(tI 11 x_v10), (tI 10 ((broken.length : Nat) : Int)), (tS 9 a_broken broken.length c_broken), (tI 6 x_v11), (tP 4 1 0), (tP 2 0 0), (tS 1 a_broken broken.length c_broken)]
abbrev K62m6 (broken : List Int) (a_broken : Option Addr) (c_broken : Nat) : TM := [(tI 10 ((broken.length : Nat) : Int)), (tS 9 a_broken broken.length c_broken), (tP 4 1 0), (tP 2 0 0), (tS 1 a_broken broken.length c_broken)]
set_option maxRecDepth 100000 in
set_option maxHeartbeats 4000000 in
theorem lane_Yard_down_ok (n : Nat) {h : Heap} {w : World} (hh : Has h w) (y : Yard) {cs_y : List Value} (hx_y : rep h y cs_y) (broken : List Int) {a_broken : Option Addr} {c_broken : Nat} (hr_broken : RepS h a_broken c_broken broken) {r : Some × Bool} (H : lane_Yard_down n y broken = some r) :
  Calls Try.prog 62 #[.agg cs_y.toArray, .slice a_broken broken.length c_broken] w (Ret (fun h v => ∃ v0 v1, v = .tuple #[v0, v1] ∧ (∃ cs, v0 = .agg cs.toArray ∧ rep h r.1 cs) ∧ (v1 = .bool r.2)) h w) := by
 obtain ⟨_, _, rfl, ⟨g, k, rfl, ad⟩, ⟨_, _, rfl, ⟨i, l, rfl, ae⟩, rfl⟩⟩ := hx_y
 refine enter 35 [.agg (K62c2 g y k i l), .c (.slice a_broken broken.length c_broken)] Try.func62 rfl rfl rfl rfl fun t hk => ?_
 have hm := Mem.begin h w hh
 unfold lane_Yard_down at H
 refine wp_seq (wp_region_from (wl fun K hK => ?_))
 refine wb (.agg (K62c2 g y k i l)) hk hm fun d cy dy (bm : Kn 35 [(d, 0)] [(tP 2 0 0), (tA 0 (K62c2 g y k i l)), (tS 1 a_broken broken.length c_broken)] cy) ci => hK _ _ ?_
 refine wl fun K hK => ?_
 refine wa [.bool false, .bool false, .bool false, .bool false, .bool false, .bool false, .bool false, .bool false] bm ci fun e cu dt (b0 : Kn 35 [(d, 0), (e, 0)] [(tP 4 1 0), (tP 2 0 0), (tA 0 (K62c2 g y k i l)), (tS 1 a_broken broken.length c_broken)] cu) ai => hK _ _ ?_
 refine Rk 2 1 [(tP 4 1 0), (tP 2 0 0), (tS 1 a_broken broken.length c_broken)] b0 ai fun db b1 => ?_
 refine wf (wp_seq (wp_region_from (Rk 0 1 [(tI 6 (-1)), (tP 4 1 0), (tP 2 0 0), (tS 1 a_broken broken.length c_broken)] b1 ai fun dc b2 => ?_)))
 refine wf (wp_seq (wp_seq (wp_region_from (Rk 0 3 [(tI 11 0), (tI 10 ((broken.length : Nat) : Int)), (tS 9 a_broken broken.length c_broken), (tI 6 (-1)), (tP 4 1 0), (tP 2 0 0), (tS 1 a_broken broken.length c_broken)] b2 ai fun dd b3 => ?_))))
 refine wf ?_
 obtain ⟨bf, ay, H⟩ := bnd H
 refine wp_mid' (fun a' w' => ∃ (a : Some) (av : Array Value) (ag : Heap), a' = ⟨av, []⟩ ∧ Kn 35 [(d, 0), (e, 0)] [(tP 4 1 0), (tP 2 0 0), (tS 1 a_broken broken.length c_broken)] av ∧ Mem ⟨w, h, noX⟩ ag [(d, 0), (e, 0)] [⟨(K62c2 g y k i l), some 33⟩, ⟨(K62c3 a), some 74⟩] [] w' ∧ Heap.le h ag ∧ bf = .go a) ?_ ?_
 ·
  refine wp_block ?_
  refine wp_loop_n (fun cr a' w' => ∃ (x_v10 : Int) (x_v11 : Int) (x_v12 : Some) (aw : Array Value) (x : Heap), a' = ⟨aw, []⟩ ∧ Kn 35 [(d, 0), (e, 0)] (K62m5 x_v10 broken a_broken c_broken x_v11) aw ∧ Mem ⟨w, h, noX⟩ x [(d, 0), (e, 0)] [⟨(K62c2 g y k i l), some 33⟩, ⟨(K62c4 x_v12), some 74⟩] [] w' ∧ Heap.le h x ∧ lane_Yard_down_l1 cr y broken x_v10 x_v11 x_v12 = some bf) n ?_ ?_
  ·
   exact Exists.intro 0 ⟨(-1), (Some.mk false false false false false false false false), _, _, rfl, b3.kp, ai, (Heap.le_refl _), ay⟩
  ·
   rintro al _ du ⟨x_v10, x_v11, x_v12, aw, x, rfl, b4, ar, aa, f⟩
   clear ay
   obtain _ | al := al
   ·
    rw [lane_Yard_down_l1] at f; cases f
   rw [lane_Yard_down_l1] at f
   replace ad := ad.mono aa
   replace ae := ae.mono aa
   replace hr_broken := hr_broken.mono aa
   refine wp_seq (wp_region_from (Rk 0 1 ((tB 12 (decide (x_v10 < ((broken.length : Nat) : Int)))) :: (K62m5 x_v10 broken a_broken c_broken x_v11)) b4 ar fun de ao => ?_))
   refine wf (wp_seq (wC (decide (x_v10 < ((broken.length : Nat) : Int))) ao (fun am => ?_) (fun am => ?_)))
   ·
    rw [am, cond_true] at f
    refine wp_skip (wp_seq (wp_block (wp_seq (wp_region_from ?_))))
    obtain ⟨x13, ex13, f⟩ := bnd f
    obtain ⟨ck, cm, cp⟩ := idx_some ex13
    obtain ⟨m, p, c0, bk, co, bl⟩ := hr_broken.get (by decide) cp
    obtain rfl := co
    have aj := ar.addPlc (b := m) (o := p + (x_v10 : Int).toNat * 1) (cs := [.int .i64 x13]) (fun j c hj => bl j _ (map_get hj)) rfl (by kernel_rfl) (by kernel_rfl)
    refine R_index 0 (x_v10) rfl rfl (rfl) rfl (by decide) ao (by rfl) (by rfl) (by rfl) bk (by rfl) ck cm (by kernel_rfl) fun cw (b5 : Kn 35 (K62e1 d e m p x_v10) ((tP 13 2 0) :: (tB 12 (decide (x_v10 < ((broken.length : Nat) : Int)))) :: (K62m5 x_v10 broken a_broken c_broken x_v11)) cw) => ?_
    refine Rk 1 2 ((tI 8 x13) :: (K62m5 x_v10 broken a_broken c_broken x_v11)) b5 aj fun df b6 => ?_
    refine wf (wp_seq (wp_seq ?_))
    obtain ⟨bg, u, f⟩ := bnd f
    refine wp_mid' (fun a' w' => ∃ (ax : Array Value) (ah : Heap), a' = ⟨ax, []⟩ ∧ Kn 35 (K62e1 d e m p x_v10) [(tI 8 x13), (tI 11 x_v10), (tI 10 ((broken.length : Nat) : Int)), (tS 9 a_broken broken.length c_broken), (tP 4 1 0), (tP 2 0 0), (tS 1 a_broken broken.length c_broken), (tB 23 bg)] ax ∧ Mem ⟨w, h, noX⟩ ah (K62e1 d e m p x_v10) [⟨(K62c2 g y k i l), some 33⟩, ⟨(K62c4 x_v12), some 74⟩, ⟨[.int .i64 x13], none⟩] [] w' ∧ Heap.le x ah) ?_ ?_
    ·
     refine wp_region_from (Rk 0 2 ((tI 16 x13) :: (tA 15 (K62c2 g y k i l)) :: (tI 8 x13) :: (K62m5 x_v10 broken a_broken c_broken x_v11)) b6 aj fun dg b7 => ?_)
     obtain ⟨x17, ex17, u⟩ := bnd u
     refine wl fun K hK => ?_
     refine wc [.agg (K62c2 g y k i l), .c (.int .i64 x13)] b7 aj (lane_Yard_bus_ok al aj.has y ((rep_pair (rep_slice ad) (rep_pair (rep_slice ae) rep_int)) : rep x y _) x13 ex17) fun dm c1 dv bj bb ac => ?_
     obtain rfl := bj
     refine ⟨.one (.c (.bool x17)), rfl, fun cx (b8 : Kn 35 (K62e1 d e m p x_v10) ((tB 17 x17) :: (tI 16 x13) :: (tA 15 (K62c2 g y k i l)) :: (tI 8 x13) :: (K62m5 x_v10 broken a_broken c_broken x_v11)) cx) => hK _ _ ?_⟩
     refine Rk 3 2 ((tB 19 (!x17)) :: (tI 8 x13) :: (K62m5 x_v10 broken a_broken c_broken x_v11)) b8 ac fun bh a8 => ?_
     rcases Bool.eq_false_or_eq_true ((!x17)) with z | z
     ·
      rw [z, cond_true] at u
      have b9 : Kn 35 (K62e1 d e m p x_v10) ((tB 19 true) :: (tI 8 x13) :: (K62m5 x_v10 broken a_broken c_broken x_v11)) bh := (a8.setB 19 true (by rfl) z).kp
      refine Rk 5 4 ((tB 23 true) :: (tI 8 x13) :: (tI 11 x_v10) :: (K62m6 broken a_broken c_broken)) b9 ac fun dh ca => ?_
      refine wf ?_
      obtain rfl := Option.some.inj u
      exact Exists.intro _ ⟨_, rfl, ca.kp, ac, bb⟩
     ·
      rw [z, cond_false] at u
      have cb : Kn 35 (K62e1 d e m p x_v10) ((tB 19 false) :: (tI 8 x13) :: (K62m5 x_v10 broken a_broken c_broken x_v11)) bh := (a8.setB 19 false (by rfl) z).kp
      refine Rk 5 4 ((tB 23 (decide (x13 ≤ x_v11))) :: (tI 8 x13) :: (tI 11 x_v10) :: (K62m6 broken a_broken c_broken)) cb ac fun di cc => ?_
      refine wf ?_
      obtain rfl := Option.some.inj u
      exact Exists.intro _ ⟨_, rfl, cc.kp, ac, bb⟩
    ·
     rintro _ dw ⟨ax, ah, rfl, ap, ak, ch⟩
     refine wC (bg) ap (fun an => ?_) (fun an => ?_)
     ·
      rw [cond_t an] at f
      refine wp_seq (wp_region_from (Rk 0 1 [(tA 24 (K62c4 x_v12)), (tP 4 1 0)] ap ak fun dj cd => ?_))
      refine wl fun K hK => ?_
      refine wst 1 0 (.agg (K62c4 x_v12)) (K62c4 x_v12) cd ak fun dx ce bd => hK _ _ ?_
      refine Rk 2 1 [(tB 5 false), (tP 4 1 0)] ce bd fun dk cf => ?_
      refine wf (wp_ret ?_)
      obtain rfl := Option.some.inj f
      obtain rfl := Option.some.inj H
      exact rt (.tup [.agg (K62c4 x_v12), .c (.bool false)]) cf bd ⟨_, _, rfl, ⟨_, rfl, ((rep_pair rep_bool (rep_pair rep_bool (rep_pair rep_bool (rep_pair rep_bool (rep_pair rep_bool (rep_pair rep_bool (rep_pair rep_bool rep_bool))))))) : rep ah (x_v12 : Some) _)⟩, rfl⟩
     ·
      rw [cond_f an] at f
      refine wp_skip (wp_region_from (Rk 0 2 ((tI 26 x13) :: (tI 25 x13) :: (tI 11 x_v10) :: (K62m6 broken a_broken c_broken)) ap ak fun dl a9 => ?_))
      obtain ⟨x27, ex27, f⟩ := bnd f
      obtain ⟨cl, cn⟩ := rng_some ex27
      refine R_one 2 (.one (.c (.ptr 1 (0 + (x13 : Int).toNat * 1)))) rfl (rfl) rfl (run_indexA (E := 4) a9 rfl (by kernel_rfl) (by kernel_rfl) (by rfl) (by rfl) cl cn) (a9.put (by decide) _) fun cz (cg : Kn 35 (K62e1 d e m p x_v10) ((tP 27 1 (0 + (x13 : Int).toNat * 1)) :: (tI 26 x13) :: (tI 25 x13) :: (tI 11 x_v10) :: (K62m6 broken a_broken c_broken)) cz) => ?_
      obtain ⟨q, bi, f⟩ := bnd f
      obtain ⟨c3, c4, cq⟩ := Some.setI_some bi
      refine wl fun K hK => ?_
      refine wp_store 1 (0 + (x13 : Int).toNat * 1) (.c (.bool true)) [.bool q.a0, .bool q.a1, .bool q.a2, .bool q.a3, .bool q.a4, .bool q.a5, .bool q.a6, .bool q.a7] cg ak rfl rfl (by rfl) (by rfl) (by rfl) (by kernel_rfl) (by refine decide_eq_true ?_; show (0 + (x13 : Int).toNat * 1) + 1 ≤ 8; omega) (arr_set (fun (y : Bool) => ([.bool y] : List SC)) 1 (fun _ => rfl) [] [] x_v12.toL q.toL (x13 : Int).toNat true cq (show (x13 : Int).toNat < 8 by omega) rfl rfl rfl) fun dz bn aq => hK _ _ ?_
      refine Rk 4 1 ((tI 6 x13) :: (tI 11 x_v10) :: (K62m6 broken a_broken c_broken)) bn aq fun c5 bo => ?_
      refine wf (wp_region_from (Rk 0 2 ((tI 11 (IntKind.i64.wrap (x_v10 + 1))) :: (tI 6 x13) :: (K62m6 broken a_broken c_broken)) bo aq fun c6 bp => ?_))
      refine wf ?_
      exact Exists.intro al ⟨Nat.lt_succ_self _, Exists.intro (IntKind.i64.wrap (x_v10 + 1)) ⟨x13, q, _, _, rfl, ((bp.keep [11, 10, 9, 6, 4, 2, 1] (by rfl)).cut 2 (by kernel_rfl)), (aq.cutPl 2 (by kernel_rfl)), (Heap.le_trans aa ch), f⟩⟩
   ·
    rw [am, cond_false] at f
    refine wp_exit ?_
    obtain rfl := Option.some.inj f
    exact Exists.intro x_v12 ⟨_, _, rfl, ao.kp, ar, aa, rfl⟩
 ·
  rintro _ dp ⟨a, av, ag, rfl, bq, s, ba, rfl⟩
  rw [Ex.bind_go] at H
  replace ad := ad.mono ba
  replace ae := ae.mono ba
  refine wp_seq (wp_region_G (by kernel_rfl) ?_)
  replace s := s.drew
  refine wpG_of_D [4] [(d, 0), (e, 0)] [⟨(K62c2 g y k i l), some 33⟩, ⟨(K62c3 a), some 74⟩] ?_
  refine Dr [0, 1, 2, 3] (dn 3) [(tP 32 0 2), (tI 31 ((broken.length : Nat) : Int)), (tA 29 (K62c3 a)), (tP 4 1 0)] bq s fun c7 az => ?_
  refine D_share (fun W => ∀ a' w', (∃ (au : Array Value) (af : Heap), a' = ⟨au, []⟩ ∧ Kn 35 [(d, 0), (e, 0)] [(tB 5 (decide (((broken.length : Nat) : Int) ≤ y.broken))), (tP 4 1 0)] au ∧ Mem ⟨w, h, noX⟩ af [(d, 0), (e, 0)] [⟨(K62c2 g y k i l), some 33⟩, ⟨(K62c3 a), some 74⟩] [] w' ∧ Heap.le ag af) → W [(d, 0), (e, 0)] [⟨(K62c2 g y k i l), some 33⟩, ⟨(K62c3 a), some 74⟩] [7, 5, 4, 6, 3, 2, 1, 0] a' w') ?_ (fun be => ?_)
  ·
   rintro _ dq ⟨au, af, rfl, br, cj, c2⟩
   refine wpD_end (by kernel_rfl) (wp_ret ?_)
   obtain rfl := Option.some.inj H
   exact rt (.tup [.agg (K62c3 a), .c (.bool (decide (((broken.length : Nat) : Int) ≤ y.broken)))]) br cj ⟨_, _, rfl, ⟨_, rfl, ((rep_pair rep_bool (rep_pair rep_bool (rep_pair rep_bool (rep_pair rep_bool (rep_pair rep_bool (rep_pair rep_bool (rep_pair rep_bool rep_bool))))))) : rep af (a : Some) _)⟩, rfl⟩
  refine D_two 4 6 rfl rfl (by kernel_rfl) (by decide) (rfl) (rfl) (fun K hK => ?_) (fun K hK => ?_)
  ·
   refine wp_quiet az s.plOk rfl (by decide) (by kernel_rfl) fun ct (bs : Kn 35 [(d, 0), (e, 0)] [(tI 33 y.broken), (tP 32 0 2), (tI 31 ((broken.length : Nat) : Int)), (tA 29 (K62c3 a)), (tP 4 1 0)] ct) => hK _ _ s.plOk ?_
   refine Dr [5] (dn 5) [(tB 34 (decide (((broken.length : Nat) : Int) ≤ y.broken))), (tA 29 (K62c3 a)), (tP 4 1 0)] bs s fun c8 bt => ?_
   refine D_sync 6 rfl (by kernel_rfl) (by decide) (rfl) (by kernel_rfl) fun K hK => ?_
   refine wst 1 0 (.agg (K62c3 a)) (K62c3 a) bt s fun dr bu bc => hK _ _ ?_
   refine wpG_of_D [4] [(d, 0), (e, 0)] [⟨(K62c2 g y k i l), some 33⟩, ⟨(K62c3 a), some 74⟩] ?_
   refine Dr [7] (dn 7) [(tB 5 (decide (((broken.length : Nat) : Int) ≤ y.broken))), (tP 4 1 0)] bu bc fun c9 bv => ?_
   refine D_perm [7, 5, 4, 6, 3, 2, 1, 0] (by kernel_rfl) (by rfl) (be _ _ ?_)
   exact Exists.intro _ ⟨_, rfl, bv.kp, bc, (Heap.le_refl _)⟩
  ·
   refine wst 1 0 (.agg (K62c3 a)) (K62c3 a) az s fun ds bw ab => hK _ _ ab.plOk ?_
   refine Dl 4 fun K hK => ?_
   refine wp_quiet bw ab.plOk rfl (by decide) (by kernel_rfl) fun cv (bx : Kn 35 [(d, 0), (e, 0)] [(tI 33 y.broken), (tP 32 0 2), (tI 31 ((broken.length : Nat) : Int)), (tA 29 (K62c3 a)), (tP 4 1 0)] cv) => hK _ _ ab.plOk ?_
   refine Dr [5, 7] [7, 5, 4, 6, 3, 2, 1, 0] [(tB 5 (decide (((broken.length : Nat) : Int) ≤ y.broken))), (tP 4 1 0)] bx ab fun da bz => ?_
   refine D_perm [7, 5, 4, 6, 3, 2, 1, 0] (by kernel_rfl) (by rfl) (be _ _ ?_)
   exact Exists.intro _ ⟨_, rfl, bz.kp, ab, (Heap.le_refl _)⟩
abbrev K41c1 (a : Option Addr) (y : Yard) (d : Nat) (b : Option Addr) (e : Nat) : List SC := [.slice a y.room.length d, .slice b y.buses.length e, .int .i64 y.broken]
abbrev K41c2 (x30 : Some × Bool) : List SC := [.bool x30.1.a0, .bool x30.1.a1, .bool x30.1.a2, .bool x30.1.a3, .bool x30.1.a4, .bool x30.1.a5, .bool x30.1.a6, .bool x30.1.a7]
abbrev K41c3 (x24 : Places × Bool) : List SC := [.int .i64 x24.1.a0, .int .i64 x24.1.a1, .int .i64 x24.1.a2, .int .i64 x24.1.a3, .int .i64 x24.1.a4, .int .i64 x24.1.a5, .int .i64 x24.1.a6, .int .i64 x24.1.a7]
abbrev K41c4 : List SC := [.slice none 0 0, .slice none 0 0, .int .i64 0, .slice none 0 0, .int .i64 0, .int .i64 0, .int .i64 0, .int .i64 0, .int .i64 0, .int .i64 0, .int .i64 0, .int .i64 0, .bool false, .bool false, .bool false, .bool false, .bool false, .bool false, .bool false, .bool false]
abbrev K41c5 (a : Option Addr) (y : Yard) (d : Nat) (b : Option Addr) (e : Nat) (a_lanes : Option Addr) (lanes : List Int) (c_lanes : Nat) (x24 : Places × Bool) (x30 : Some × Bool) : List SC := [.slice a y.room.length d, .slice b y.buses.length e, .int .i64 y.broken, .slice a_lanes lanes.length c_lanes, .int .i64 x24.1.a0, .int .i64 x24.1.a1, .int .i64 x24.1.a2, .int .i64 x24.1.a3, .int .i64 x24.1.a4, .int .i64 x24.1.a5, .int .i64 x24.1.a6, .int .i64 x24.1.a7, .bool x30.1.a0, .bool x30.1.a1, .bool x30.1.a2, .bool x30.1.a3, .bool x30.1.a4, .bool x30.1.a5, .bool x30.1.a6, .bool x30.1.a7]
abbrev K41m6 (a_lanes : Option Addr) (lanes : List Int) (c_lanes : Nat) : TM := [(tP 11 2 0), (tP 8 1 0), (tP 4 0 0), (tS 1 a_lanes lanes.length c_lanes)]
set_option maxRecDepth 100000 in
set_option maxHeartbeats 4000000 in
theorem lane_Yard_night_ok (n : Nat) {h : Heap} {w : World} (hh : Has h w) (y : Yard) {cs_y : List Value} (hx_y : rep h y cs_y) (lanes : List Int) {a_lanes : Option Addr} {c_lanes : Nat} (hr_lanes : RepS h a_lanes c_lanes lanes) (order : List Int) {a_order : Option Addr} {c_order : Nat} (hr_order : RepS h a_order c_order order) (broken : List Int) {a_broken : Option Addr} {c_broken : Nat} (hr_broken : RepS h a_broken c_broken broken) {r : Night × Int} (H : lane_Yard_night n y lanes order broken = some r) :
  Calls Try.prog 41 #[.agg cs_y.toArray, .slice a_lanes lanes.length c_lanes, .slice a_order order.length c_order, .slice a_broken broken.length c_broken] w (Ret (fun h v => ∃ v0 v1, v = .tuple #[v0, v1] ∧ (∃ cs, v0 = .agg cs.toArray ∧ rep h r.1 cs) ∧ (v1 = .int .i64 r.2)) h w) := by
 obtain ⟨_, _, rfl, ⟨a, d, rfl, i⟩, ⟨_, _, rfl, ⟨b, e, rfl, j⟩, rfl⟩⟩ := hx_y
 refine enter 51 [.agg (K41c1 a y d b e), .c (.slice a_lanes lanes.length c_lanes), .c (.slice a_order order.length c_order), .c (.slice a_broken broken.length c_broken)] Try.func41 rfl rfl rfl rfl fun t hk => ?_
 have hm := Mem.begin h w hh
 unfold lane_Yard_night at H
 refine wp_seq (wp_region_from (wl fun K hK => ?_))
 refine wb (.agg (K41c1 a y d b e)) hk hm fun f co dt (bd : Kn 51 [(f, 0)] [(tP 4 0 0), (tA 0 (K41c1 a y d b e)), (tS 1 a_lanes lanes.length c_lanes), (tS 2 a_order order.length c_order), (tS 3 a_broken broken.length c_broken)] co) ce => hK _ _ ?_
 refine wl fun K hK => ?_
 refine wa K41c4 bd ce fun g ci dj (bo : Kn 51 [(f, 0), (g, 0)] [(tP 8 1 0), (tP 4 0 0), (tA 0 (K41c1 a y d b e)), (tS 1 a_lanes lanes.length c_lanes), (tS 2 a_order order.length c_order), (tS 3 a_broken broken.length c_broken)] ci) ab => hK _ _ ?_
 refine Rk 2 1 [(tP 8 1 0), (tP 4 0 0), (tS 1 a_lanes lanes.length c_lanes), (tS 2 a_order order.length c_order), (tS 3 a_broken broken.length c_broken)] bo ab fun cx bp => ?_
 refine wf (wp_seq (wp_seq (wp_region_from (Rk 0 1 [(tA 15 (K41c1 a y d b e)), (tP 8 1 0), (tP 4 0 0), (tS 1 a_lanes lanes.length c_lanes), (tS 2 a_order order.length c_order), (tS 3 a_broken broken.length c_broken)] bp ab fun cy bq => ?_))))
 obtain ⟨x16, ex16, H⟩ := bnd H
 refine wl fun K hK => ?_
 refine wc [.agg (K41c1 a y d b e)] bq ab (lane_Yard_check_ok n ab.has y ((rep_pair (rep_slice i) (rep_pair (rep_slice j) rep_int)) : rep h y _) ex16) fun dc ak dk a9 x p => ?_
 replace i := i.mono x
 replace j := j.mono x
 replace hr_lanes := hr_lanes.mono x
 replace hr_order := hr_order.mono x
 replace hr_broken := hr_broken.mono x
 obtain rfl := a9
 refine ⟨.one (.c (.int .i64 x16)), rfl, fun cj (br : Kn 51 [(f, 0), (g, 0)] [(tI 16 x16), (tA 15 (K41c1 a y d b e)), (tP 8 1 0), (tP 4 0 0), (tS 1 a_lanes lanes.length c_lanes), (tS 2 a_order order.length c_order), (tS 3 a_broken broken.length c_broken)] cj) => hK _ _ ?_⟩
 refine Rk 2 1 [(tI 10 x16), (tP 8 1 0), (tP 4 0 0), (tS 1 a_lanes lanes.length c_lanes), (tS 2 a_order order.length c_order), (tS 3 a_broken broken.length c_broken)] br p fun cz bs => ?_
 refine wf (wp_seq (wp_region_from (Rk 0 2 [(tB 18 (x16 != 0)), (tI 10 x16), (tP 8 1 0), (tP 4 0 0), (tS 1 a_lanes lanes.length c_lanes), (tS 2 a_order order.length c_order), (tS 3 a_broken broken.length c_broken)] bs p fun c0 ag => ?_)))
 refine wf (wC ((x16 != 0)) ag (fun ae => ?_) (fun ae => ?_))
 ·
  rw [ae, cond_true] at H
  refine wp_seq (wp_region_from (Rk 0 2 [(tI 20 x16), (tA 19 K41c4), (tP 8 1 0)] ag p fun c1 bt => ?_))
  refine wl fun K hK => ?_
  refine wst 1 0 (.agg K41c4) K41c4 bt p fun dl bu au => hK _ _ ?_
  refine Rk 3 1 [(tI 9 x16), (tP 8 1 0)] bu au fun c2 bv => ?_
  refine wf (wp_ret ?_)
  obtain rfl := Option.some.inj H
  exact rt (.tup [.agg K41c4, .c (.int .i64 x16)]) bv au ⟨_, _, rfl, ⟨_, rfl, ((rep_pair (rep_pair (rep_slice RepS.nil) (rep_pair (rep_slice RepS.nil) rep_int)) (rep_pair (rep_slice RepS.nil) (rep_pair (rep_pair rep_int (rep_pair rep_int (rep_pair rep_int (rep_pair rep_int (rep_pair rep_int (rep_pair rep_int (rep_pair rep_int rep_int))))))) (rep_pair rep_bool (rep_pair rep_bool (rep_pair rep_bool (rep_pair rep_bool (rep_pair rep_bool (rep_pair rep_bool (rep_pair rep_bool rep_bool)))))))))) : rep ak ((Night.mk (Yard.mk ([] : List Int) ([] : List Bus) 0) ([] : List Int) (Places.mk 0 0 0 0 0 0 0 0) (Some.mk false false false false false false false false)) : Night) _)⟩, rfl⟩
 ·
  rw [ae, cond_false] at H
  refine wp_skip (wp_seq (wp_region_from (Rk 0 2 [(tS 23 a_order order.length c_order), (tA 22 (K41c1 a y d b e)), (tP 8 1 0), (tP 4 0 0), (tS 1 a_lanes lanes.length c_lanes), (tS 3 a_broken broken.length c_broken)] ag p fun c3 bw => ?_)))
  obtain ⟨x24, ex24, H⟩ := bnd H
  refine wl fun K hK => ?_
  refine wc [.agg (K41c1 a y d b e), .c (.slice a_order order.length c_order)] bw p (lane_Yard_possible_ok n p.has y ((rep_pair (rep_slice i) (rep_pair (rep_slice j) rep_int)) : rep ak y _) order hr_order ex24) fun dd bc dm ba z av => ?_
  replace i := i.mono z
  replace j := j.mono z
  replace hr_broken := hr_broken.mono z
  obtain ⟨_, _, rfl, ⟨_, rfl, ⟨_, _, rfl, rfl, ⟨_, _, rfl, rfl, ⟨_, _, rfl, rfl, ⟨_, _, rfl, rfl, ⟨_, _, rfl, rfl, ⟨_, _, rfl, rfl, ⟨_, _, rfl, rfl, rfl⟩⟩⟩⟩⟩⟩⟩⟩, rfl⟩ := ba
  refine ⟨.tup [.agg (K41c3 x24), .c (.bool x24.2)], rfl, fun ck (bx : Kn 51 [(f, 0), (g, 0)] [(24, .tup [.agg (K41c3 x24), .c (.bool x24.2)]), (tS 23 a_order order.length c_order), (tA 22 (K41c1 a y d b e)), (tP 8 1 0), (tP 4 0 0), (tS 1 a_lanes lanes.length c_lanes), (tS 3 a_broken broken.length c_broken)] ck) => hK _ _ ?_⟩
  refine Rk 3 3 [(tB 26 x24.2), (tA 25 (K41c3 x24)), (tP 8 1 0), (tP 4 0 0), (tS 1 a_lanes lanes.length c_lanes), (tS 3 a_broken broken.length c_broken)] bx av fun c4 bz => ?_
  refine wl fun K hK => ?_
  refine wa [.int .i64 0, .int .i64 0, .int .i64 0, .int .i64 0, .int .i64 0, .int .i64 0, .int .i64 0, .int .i64 0] bz av fun k cl dn (b0 : Kn 51 [(f, 0), (g, 0), (k, 0)] [(tP 11 2 0), (tB 26 x24.2), (tA 25 (K41c3 x24)), (tP 8 1 0), (tP 4 0 0), (tS 1 a_lanes lanes.length c_lanes), (tS 3 a_broken broken.length c_broken)] cl) cf => hK _ _ ?_
  refine wl fun K hK => ?_
  refine wst 2 0 (.agg (K41c3 x24)) (K41c3 x24) b0 cf fun dp b1 ac => hK _ _ ?_
  refine Rk 8 1 [(tB 12 x24.2), (tP 11 2 0), (tP 8 1 0), (tP 4 0 0), (tS 1 a_lanes lanes.length c_lanes), (tS 3 a_broken broken.length c_broken)] b1 ac fun c5 b2 => ?_
  refine wf (wp_seq (wp_region_from (Rk 0 2 ((tS 29 a_broken broken.length c_broken) :: (tA 28 (K41c1 a y d b e)) :: (tB 12 x24.2) :: (K41m6 a_lanes lanes c_lanes)) b2 ac fun c6 b3 => ?_)))
  obtain ⟨x30, ex30, H⟩ := bnd H
  refine wl fun K hK => ?_
  refine wc [.agg (K41c1 a y d b e), .c (.slice a_broken broken.length c_broken)] b3 ac (lane_Yard_down_ok n ac.has y ((rep_pair (rep_slice i) (rep_pair (rep_slice j) rep_int)) : rep bc y _) broken hr_broken ex30) fun de al dq bb ai aw => ?_
  replace i := i.mono ai
  replace j := j.mono ai
  replace hr_lanes := hr_lanes.mono (Heap.le_trans z ai)
  obtain ⟨_, _, rfl, ⟨_, rfl, ⟨_, _, rfl, rfl, ⟨_, _, rfl, rfl, ⟨_, _, rfl, rfl, ⟨_, _, rfl, rfl, ⟨_, _, rfl, rfl, ⟨_, _, rfl, rfl, ⟨_, _, rfl, rfl, rfl⟩⟩⟩⟩⟩⟩⟩⟩, rfl⟩ := bb
  refine ⟨.tup [.agg (K41c2 x30), .c (.bool x30.2)], rfl, fun cm (b4 : Kn 51 [(f, 0), (g, 0), (k, 0)] ((30, .tup [.agg (K41c2 x30), .c (.bool x30.2)]) :: (tS 29 a_broken broken.length c_broken) :: (tA 28 (K41c1 a y d b e)) :: (tB 12 x24.2) :: (K41m6 a_lanes lanes c_lanes)) cm) => hK _ _ ?_⟩
  refine Rk 3 3 ((tB 32 x30.2) :: (tA 31 (K41c2 x30)) :: (tB 12 x24.2) :: (K41m6 a_lanes lanes c_lanes)) b4 aw fun c7 b5 => ?_
  refine wl fun K hK => ?_
  refine wa [.bool false, .bool false, .bool false, .bool false, .bool false, .bool false, .bool false, .bool false] b5 aw fun o cn dr (b6 : Kn 51 [(f, 0), (g, 0), (k, 0), (o, 0)] ((tP 13 3 0) :: (tB 32 x30.2) :: (tA 31 (K41c2 x30)) :: (tB 12 x24.2) :: (K41m6 a_lanes lanes c_lanes)) cn) cg => hK _ _ ?_
  refine wl fun K hK => ?_
  refine wst 3 0 (.agg (K41c2 x30)) (K41c2 x30) b6 cg fun ds b7 l => hK _ _ ?_
  refine Rk 8 1 ((tB 14 x30.2) :: (tP 13 3 0) :: (tB 12 x24.2) :: (K41m6 a_lanes lanes c_lanes)) b7 l fun c8 b8 => ?_
  refine wf (wp_seq (wp_seq ?_))
  obtain ⟨ax, m, H⟩ := bnd H
  refine wp_mid' (fun a' w' => ∃ (aj : Array Value) (q : Heap), a' = ⟨aj, []⟩ ∧ Kn 51 [(f, 0), (g, 0), (k, 0), (o, 0)] [(tP 13 3 0), (tP 11 2 0), (tP 8 1 0), (tP 4 0 0), (tS 1 a_lanes lanes.length c_lanes), (tB 44 ax)] aj ∧ Mem ⟨w, h, noX⟩ q [(f, 0), (g, 0), (k, 0), (o, 0)] [⟨(K41c1 a y d b e), some 33⟩, ⟨K41c4, some 76⟩, ⟨(K41c3 x24), some 72⟩, ⟨(K41c2 x30), some 74⟩] [] w' ∧ Heap.le al q) ?_ ?_
  ·
   refine wp_region_from (Rk 0 3 ((tB 35 (!x24.2)) :: (tB 14 x30.2) :: (tP 13 3 0) :: (K41m6 a_lanes lanes c_lanes)) b8 l fun ay an => ?_)
   rcases Bool.eq_false_or_eq_true ((!x24.2)) with s | s
   ·
    rw [s, cond_true] at m
    have b9 : Kn 51 [(f, 0), (g, 0), (k, 0), (o, 0)] ((tB 35 true) :: (tB 14 x30.2) :: (tP 13 3 0) :: (K41m6 a_lanes lanes c_lanes)) ay := (an.setB 35 true (by rfl) s).kp
    refine Rk 3 9 ((tB 44 true) :: (tP 13 3 0) :: (K41m6 a_lanes lanes c_lanes)) b9 l fun c9 ca => ?_
    refine wf ?_
    obtain rfl := Option.some.inj m
    exact Exists.intro _ ⟨_, rfl, ca.kp, l, (Heap.le_refl _)⟩
   ·
    rw [s, cond_false] at m
    have cb : Kn 51 [(f, 0), (g, 0), (k, 0), (o, 0)] ((tB 35 false) :: (tB 14 x30.2) :: (tP 13 3 0) :: (K41m6 a_lanes lanes c_lanes)) ay := (an.setB 35 false (by rfl) s).kp
    refine Rk 3 4 ((tB 39 (!x30.2)) :: (tP 13 3 0) :: (K41m6 a_lanes lanes c_lanes)) cb l fun az ao => ?_
    rcases Bool.eq_false_or_eq_true ((!x30.2)) with u | u
    ·
     rw [u, cond_true] at m
     have cc : Kn 51 [(f, 0), (g, 0), (k, 0), (o, 0)] ((tB 39 true) :: (tP 13 3 0) :: (K41m6 a_lanes lanes c_lanes)) az := (ao.setB 39 true (by rfl) u).kp
     refine Rk 7 5 ((tB 44 true) :: (tP 13 3 0) :: (K41m6 a_lanes lanes c_lanes)) cc l fun da be => ?_
     refine wf ?_
     obtain rfl := Option.some.inj m
     exact Exists.intro _ ⟨_, rfl, be.kp, l, (Heap.le_refl _)⟩
    ·
     rw [u, cond_false] at m
     have bf : Kn 51 [(f, 0), (g, 0), (k, 0), (o, 0)] ((tB 39 false) :: (tP 13 3 0) :: (K41m6 a_lanes lanes c_lanes)) az := (ao.setB 39 false (by rfl) u).kp
     refine Rk 7 2 ((tS 41 a_lanes lanes.length c_lanes) :: (tA 40 (K41c1 a y d b e)) :: (tB 39 false) :: (tP 13 3 0) :: (K41m6 a_lanes lanes c_lanes)) bf l fun cq am => ?_
     obtain ⟨x42, ex42, m⟩ := bnd m
     refine wpFrom_loud _ rfl (wantedS_sound am (by kernel_rfl)) fun K hK => ?_
     refine wc [.agg (K41c1 a y d b e), .c (.slice a_lanes lanes.length c_lanes)] am l (lane_Yard_lanes_ok n l.has y ((rep_pair (rep_slice i) (rep_pair (rep_slice j) rep_int)) : rep al y _) lanes hr_lanes ex42) fun db cp df a8 cd ap => ?_
     obtain rfl := a8
     refine ⟨.one (.c (.bool x42)), rfl, fun ch (bg : Kn 51 [(f, 0), (g, 0), (k, 0), (o, 0)] ((tB 42 x42) :: (tS 41 a_lanes lanes.length c_lanes) :: (tA 40 (K41c1 a y d b e)) :: (tB 39 false) :: (tP 13 3 0) :: (K41m6 a_lanes lanes c_lanes)) ch) => hK _ _ ?_⟩
     refine Rk 10 2 ((tB 44 (!x42)) :: (tP 13 3 0) :: (K41m6 a_lanes lanes c_lanes)) bg ap fun cr bh => ?_
     refine wf ?_
     obtain rfl := Option.some.inj m
     exact Exists.intro _ ⟨_, rfl, bh.kp, ap, cd⟩
  ·
   rintro _ dg ⟨aj, q, rfl, af, aa, ah⟩
   replace i := i.mono ah
   replace j := j.mono ah
   replace hr_lanes := hr_lanes.mono ah
   refine wC (ax) af (fun ad => ?_) (fun ad => ?_)
   ·
    rw [cond_t ad] at H
    refine wp_seq (wp_region_from (Rk 0 1 [(tA 45 K41c4), (tP 8 1 0)] af aa fun ct bi => ?_))
    refine wl fun K hK => ?_
    refine wst 1 0 (.agg K41c4) K41c4 bi aa fun dh bj aq => hK _ _ ?_
    refine Rk 2 1 [(tI 9 2), (tP 8 1 0)] bj aq fun cu bk => ?_
    refine wf (wp_ret ?_)
    obtain rfl := Option.some.inj H
    exact rt (.tup [.agg K41c4, .c (.int .i64 2)]) bk aq ⟨_, _, rfl, ⟨_, rfl, ((rep_pair (rep_pair (rep_slice RepS.nil) (rep_pair (rep_slice RepS.nil) rep_int)) (rep_pair (rep_slice RepS.nil) (rep_pair (rep_pair rep_int (rep_pair rep_int (rep_pair rep_int (rep_pair rep_int (rep_pair rep_int (rep_pair rep_int (rep_pair rep_int rep_int))))))) (rep_pair rep_bool (rep_pair rep_bool (rep_pair rep_bool (rep_pair rep_bool (rep_pair rep_bool (rep_pair rep_bool (rep_pair rep_bool rep_bool)))))))))) : rep q ((Night.mk (Yard.mk ([] : List Int) ([] : List Bus) 0) ([] : List Int) (Places.mk 0 0 0 0 0 0 0 0) (Some.mk false false false false false false false false)) : Night) _)⟩, rfl⟩
   ·
    rw [cond_f ad] at H
    refine wp_skip (wp_seq (wp_region_from (Rk 0 5 [(tA 50 (K41c5 a y d b e a_lanes lanes c_lanes x24 x30)), (tP 8 1 0)] af aa fun cv bl => ?_)))
    refine wl fun K hK => ?_
    refine wst 1 0 (.agg (K41c5 a y d b e a_lanes lanes c_lanes x24 x30)) (K41c5 a y d b e a_lanes lanes c_lanes x24 x30) bl aa fun di bm ar => hK _ _ ?_
    refine Rk 6 1 [(tI 9 0), (tP 8 1 0)] bm ar fun cw bn => ?_
    refine wf (wp_ret ?_)
    obtain rfl := Option.some.inj H
    exact rt (.tup [.agg (K41c5 a y d b e a_lanes lanes c_lanes x24 x30), .c (.int .i64 0)]) bn ar ⟨_, _, rfl, ⟨_, rfl, ((rep_pair (rep_pair (rep_slice i) (rep_pair (rep_slice j) rep_int)) (rep_pair (rep_slice hr_lanes) (rep_pair (rep_pair rep_int (rep_pair rep_int (rep_pair rep_int (rep_pair rep_int (rep_pair rep_int (rep_pair rep_int (rep_pair rep_int rep_int))))))) (rep_pair rep_bool (rep_pair rep_bool (rep_pair rep_bool (rep_pair rep_bool (rep_pair rep_bool (rep_pair rep_bool (rep_pair rep_bool rep_bool)))))))))) : rep q ((Night.mk y lanes x24.1 x30.1) : Night) _)⟩, rfl⟩
abbrev K42wm1 (x_v10 : Int) (slices : List (List Int)) (a_slices : Option Addr) (c_slices : Nat) (x_v11 : Int) : TM := [(tI 11 x_v10), (tI 10 ((slices.length : Nat) : Int)), (tS 9 a_slices slices.length c_slices), (tI 3 x_v11), (tS 0 a_slices slices.length c_slices)]
set_option maxRecDepth 100000 in
set_option maxHeartbeats 4000000 in
theorem slices_Concat_int_int_own (n : Nat) {h : Heap} {w : World} (hh : Has h w) (slices : List (List Int)) {a_slices : Option Addr} {c_slices : Nat} (hr_slices : RepS h a_slices c_slices slices) {r : List Int} (H : slices_Concat_int_int n slices = some r) :
  Calls Try.prog 42 #[.slice a_slices slices.length c_slices] w (RetO (fun h v rs => ∃ (a4 : Option Addr) (a7 : Nat) (bg : List Value), v = .slice a4 r.length a7 ∧ rs = [⟨a4, r.length, a7, 3, 1, bg, 0⟩] ∧ Cells h r bg) h w) := by
 refine enter 36 [.c (.slice a_slices slices.length c_slices)] Try.func42 rfl rfl rfl rfl fun t hk => ?_
 have hm := Mem.begin h w hh
 unfold slices_Concat_int_int at H
 refine wp_seq (wp_region_from (Rk 0 1 [(tS 0 a_slices slices.length c_slices)] hk hm fun c2 bz => ?_))
 refine wf (wp_seq (wp_region_from (Rk 0 1 [(tI 3 0), (tS 0 a_slices slices.length c_slices)] bz hm fun c9 b1 => ?_)))
 refine wf (wp_seq (wp_seq (wp_region_from (Rk 0 3 [(tI 11 0), (tI 10 ((slices.length : Nat) : Int)), (tS 9 a_slices slices.length c_slices), (tI 3 0), (tS 0 a_slices slices.length c_slices)] b1 hm fun de b7 => ?_))))
 refine wf ?_
 obtain ⟨ae, ba, H⟩ := bnd H
 refine wp_mid' (fun a' w' => ∃ (a1 : Array Value) (g : Heap), a' = ⟨a1, []⟩ ∧ Kn 36 [] [(tI 3 ae), (tS 0 a_slices slices.length c_slices)] a1 ∧ Mem ⟨w, h, noX⟩ g [] [] [] w' ∧ Heap.le h g) ?_ ?_
 ·
  refine wp_block ?_
  refine wp_loop_n (fun cq a' w' => ∃ (x_v10 : Int) (x_v11 : Int) (ay : Array Value) (ag : Heap), a' = ⟨ay, []⟩ ∧ Kn 36 [] (K42wm1 x_v10 slices a_slices c_slices x_v11) ay ∧ Mem ⟨w, h, noX⟩ ag [] [] [] w' ∧ Heap.le h ag ∧ slices_Concat_int_int_l1 cq slices x_v10 x_v11 = some ae) n ?_ ?_
  ·
   exact Exists.intro 0 ⟨0, _, _, rfl, b7.kp, hm, (Heap.le_refl _), ba⟩
  ·
   rintro av _ dl ⟨x_v10, x_v11, ay, ag, rfl, bx, ap, am, a⟩
   clear ba
   obtain _ | av := av
   ·
    rw [slices_Concat_int_int_l1] at a; cases a
   rw [slices_Concat_int_int_l1] at a
   replace hr_slices := hr_slices.mono am
   refine wp_seq (wp_region_from (Rk 0 1 ((tB 12 (decide (x_v10 < ((slices.length : Nat) : Int)))) :: (K42wm1 x_v10 slices a_slices c_slices x_v11)) bx ap fun c8 ak => ?_))
   refine wf (wp_seq (wC (decide (x_v10 < ((slices.length : Nat) : Int))) ak (fun ah => ?_) (fun ah => ?_)))
   ·
    rw [ah, cond_true] at a
    refine wp_skip (wp_seq (wp_block (wp_seq (wp_region_from ?_))))
    obtain ⟨x13, ex13, a⟩ := bnd a
    obtain ⟨ce, ch, co⟩ := idx_some ex13
    obtain ⟨a6, bf, cy, bi, cm, bl⟩ := hr_slices.get (by decide) co
    obtain ⟨a5, a8, rfl, c1⟩ := cm
    have u := ap.addPlc (b := a6) (o := bf + (x_v10 : Int).toNat * 1) (cs := [.slice a5 x13.length a8]) (fun j c hj => bl j _ (map_get hj)) rfl (by kernel_rfl) (by kernel_rfl)
    refine R_index 0 (x_v10) rfl rfl (rfl) rfl (by decide) ak (by rfl) (by rfl) (by rfl) bi (by rfl) ce ch (by kernel_rfl) fun cv (b0 : Kn 36 [(a6, bf + (x_v10 : Int).toNat * 1)] ((tP 13 0 0) :: (tB 12 (decide (x_v10 < ((slices.length : Nat) : Int)))) :: (K42wm1 x_v10 slices a_slices c_slices x_v11)) cv) => ?_
    refine Rk 1 2 ((tS 5 a5 x13.length a8) :: (K42wm1 x_v10 slices a_slices c_slices x_v11)) b0 u fun da b2 => ?_
    refine wf (wp_seq (wp_region_from (Rk 0 5 [(tI 3 (IntKind.i64.wrap (x_v11 + ((x13.length : Nat) : Int)))), (tI 11 x_v10), (tI 10 ((slices.length : Nat) : Int)), (tS 9 a_slices slices.length c_slices), (tS 0 a_slices slices.length c_slices)] b2 u fun db b3 => ?_)))
    refine wf (wp_seq (wp_region_from (Rk 0 2 [(tB 20 (decide ((IntKind.i64.wrap (x_v11 + ((x13.length : Nat) : Int))) < 0))), (tI 3 (IntKind.i64.wrap (x_v11 + ((x13.length : Nat) : Int)))), (tI 11 x_v10), (tI 10 ((slices.length : Nat) : Int)), (tS 9 a_slices slices.length c_slices), (tS 0 a_slices slices.length c_slices)] b3 u fun dc bc => ?_)))
    refine wf (wC (decide ((IntKind.i64.wrap (x_v11 + ((x13.length : Nat) : Int))) < 0)) bc (fun ai => ?_) (fun ai => ?_))
    ·
     rw [ai, cond_true] at a
     cases a
    ·
     rw [ai, cond_false] at a
     refine wp_skip (wp_region_from (Rk 0 2 [(tI 11 (IntKind.i64.wrap (x_v10 + 1))), (tI 3 (IntKind.i64.wrap (x_v11 + ((x13.length : Nat) : Int)))), (tI 10 ((slices.length : Nat) : Int)), (tS 9 a_slices slices.length c_slices), (tS 0 a_slices slices.length c_slices)] bc u fun dd b4 => ?_))
     refine wf ?_
     exact Exists.intro av ⟨Nat.lt_succ_self _, Exists.intro (IntKind.i64.wrap (x_v10 + 1)) ⟨(IntKind.i64.wrap (x_v11 + ((x13.length : Nat) : Int))), _, _, rfl, ((b4.keep [11, 10, 9, 3, 0] (by rfl)).cut 0 (by kernel_rfl)), (u.cutPl 0 (by kernel_rfl)), am, a⟩⟩
   ·
    rw [ah, cond_false] at a
    refine wp_exit ?_
    obtain rfl := Option.some.inj a
    exact Exists.intro _ ⟨_, rfl, ak.kp, ap, am⟩
 ·
  rintro _ dm ⟨a1, g, rfl, b5, be, cd⟩
  replace hr_slices := hr_slices.mono cd
  refine wp_seq (wp_region_from (Rk 0 1 [(tI 23 ae), (tS 0 a_slices slices.length c_slices)] b5 be fun df b6 => ?_))
  obtain ⟨x24, ex24, H⟩ := bnd H
  obtain ⟨cf, ci⟩ := growO_some ex24
  refine wl fun K hK => ?_
  refine wp_growNil 3 Try.grows b6 be rfl rfl (by decide) (by rfl) (fun _ _ => by kernel_rfl) cf ci fun l p cw cx (b8 : Kn 36 [] [(tS 24 l 0 p), (tI 23 ae), (tS 0 a_slices slices.length c_slices)] cw) (aq : Mem ⟨w, h, noX⟩ g [] [] [⟨l, 0, p, 3, 1, ([] : List Value), 0⟩] cx) => ?_
  refine hK _ _ ?_
  refine Rk 2 1 [(tS 6 l 0 p), (tS 0 a_slices slices.length c_slices)] b8 aq fun dg b9 => ?_
  refine wf (wp_seq (wp_seq (wp_region_from (Rk 0 3 [(tI 27 0), (tI 26 ((slices.length : Nat) : Int)), (tS 25 a_slices slices.length c_slices), (tS 6 l 0 p)] b9 aq fun dh ca => ?_))))
  refine wf ?_
  obtain ⟨i, a9, H⟩ := bnd H
  refine wp_mid' (fun a' w' => ∃ (m : Option Addr) (q : Nat) (a3 : List Value) (az : Array Value) (ab : Heap), a' = ⟨az, []⟩ ∧ Kn 36 [] [(tS 6 m i.length q)] az ∧ Mem ⟨w, h, noX⟩ ab [] [] [⟨m, i.length, q, 3, 1, a3, 0⟩] w' ∧ Heap.le g ab ∧ Cells ab i a3) ?_ ?_
  ·
   refine wp_block ?_
   refine wp_loop_n (fun cr a' w' => ∃ (x_v20 : List Int) (x_v21 : Int) (e : Option Addr) (f : Nat) (k : List Value) (a0 : Array Value) (s : Heap), a' = ⟨a0, []⟩ ∧ Kn 36 [] [(tI 27 x_v21), (tI 26 ((slices.length : Nat) : Int)), (tS 25 a_slices slices.length c_slices), (tS 6 e x_v20.length f)] a0 ∧ Mem ⟨w, h, noX⟩ s [] [] [⟨e, x_v20.length, f, 3, 1, k, 0⟩] w' ∧ Heap.le g s ∧ Cells s x_v20 k ∧ slices_Concat_int_int_l2 cr slices x_v20 x_v21 = some i) n ?_ ?_
   ·
    exact Exists.intro ([] : List Int) ⟨0, l, p, ([] : List Value), _, _, rfl, ca.kp, aq, (Heap.le_refl _), Cells.nil, a9⟩
   ·
    rintro aw _ dn ⟨x_v20, x_v21, e, f, k, a0, s, rfl, cb, ar, an, bb, d⟩
    clear a9
    obtain _ | aw := aw
    ·
     rw [slices_Concat_int_int_l2] at d; cases d
    rw [slices_Concat_int_int_l2] at d
    replace hr_slices := hr_slices.mono an
    refine wp_seq (wp_region_from (Rk 0 1 [(tB 28 (decide (x_v21 < ((slices.length : Nat) : Int)))), (tI 27 x_v21), (tI 26 ((slices.length : Nat) : Int)), (tS 25 a_slices slices.length c_slices), (tS 6 e x_v20.length f)] cb ar fun di al => ?_))
    refine wf (wp_seq (wC (decide (x_v21 < ((slices.length : Nat) : Int))) al (fun aj => ?_) (fun aj => ?_)))
    ·
     rw [aj, cond_true] at d
     refine wp_skip (wp_seq (wp_block (wp_seq (wp_region_from ?_))))
     obtain ⟨x29, ex29, d⟩ := bnd d
     obtain ⟨cg, cj, cp⟩ := idx_some ex29
     obtain ⟨af, ax, cz, bj, cn, bn⟩ := hr_slices.get (by decide) cp
     obtain ⟨x, z, rfl, ck⟩ := cn
     have ad := ar.addPlc (b := af) (o := ax + (x_v21 : Int).toNat * 1) (cs := [.slice x x29.length z]) (fun j c hj => bn j _ (map_get hj)) rfl (by kernel_rfl) (by kernel_rfl)
     refine R_index 0 (x_v21) rfl rfl (rfl) rfl (by decide) al (by rfl) (by rfl) (by rfl) bj (by rfl) cg cj (by kernel_rfl) fun ct (bp : Kn 36 [(af, ax + (x_v21 : Int).toNat * 1)] [(tP 29 0 0), (tB 28 (decide (x_v21 < ((slices.length : Nat) : Int)))), (tI 27 x_v21), (tI 26 ((slices.length : Nat) : Int)), (tS 25 a_slices slices.length c_slices), (tS 6 e x_v20.length f)] ct) => ?_
     refine Rk 1 2 [(tS 8 x x29.length z), (tI 27 x_v21), (tI 26 ((slices.length : Nat) : Int)), (tS 25 a_slices slices.length c_slices), (tS 6 e x_v20.length f)] bp ad fun c3 bq => ?_
     refine wf (wp_region_from (Rk 0 2 [(tS 32 x x29.length z), (tS 31 e x_v20.length f), (tI 27 x_v21), (tI 26 ((slices.length : Nat) : Int)), (tS 25 a_slices slices.length c_slices)] bq ad fun c4 br => ?_))
     obtain ⟨a2, ac, cl, _⟩ := id ck
     obtain ⟨x33, ex33, d⟩ := bnd d
     obtain ⟨au, cc⟩ := app_some ex33
     refine wl fun K hK => ?_
     refine wp_append 0 8 x29.length _ (x33.length) _ a2 br ad rfl rfl (by decide) rfl (by rfl) (by kernel_rfl) (by rfl) (by rfl) (Cells.len ac) (cl.cell ad.has ac.one) ac.one (by rw [au]; simp <;> omega) (by rw [au]; exact cc) (by decide) fun y aa bh cu dj bo (bs : Kn 36 [(af, ax + (x_v21 : Int).toNat * 1)] [(tS 33 y x33.length aa), (tS 32 x x29.length z), (tS 31 e x_v20.length f), (tI 27 x_v21), (tI 26 ((slices.length : Nat) : Int)), (tS 25 a_slices slices.length c_slices)] cu) ao => ?_
     have bk : Cells s x33 (k ++ a2) := by rw [au]; exact Cells.append bb ac
     obtain rfl : bh = 0 := Nat.le_zero.1 bo
     refine hK _ _ ?_
     refine Rk 3 1 [(tS 6 y x33.length aa), (tI 27 x_v21), (tI 26 ((slices.length : Nat) : Int)), (tS 25 a_slices slices.length c_slices)] bs ao fun c5 bt => ?_
     refine wf (wp_region_from (Rk 0 2 [(tI 27 (IntKind.i64.wrap (x_v21 + 1))), (tS 6 y x33.length aa), (tI 26 ((slices.length : Nat) : Int)), (tS 25 a_slices slices.length c_slices)] bt ao fun c6 bu => ?_))
     refine wf ?_
     exact Exists.intro aw ⟨Nat.lt_succ_self _, Exists.intro x33 ⟨(IntKind.i64.wrap (x_v21 + 1)), y, aa, (k ++ a2), _, _, rfl, ((bu.keep [27, 26, 25, 6] (by rfl)).cut 0 (by kernel_rfl)), (ao.cutPl 0 (by kernel_rfl)), an, bk, d⟩⟩
    ·
     rw [aj, cond_false] at d
     refine wp_exit ?_
     obtain rfl := Option.some.inj d
     exact Exists.intro e ⟨f, k, _, _, rfl, al.kp, ar, an, bb⟩
  ·
   rintro _ dk ⟨m, q, a3, az, ab, rfl, bv, bd, c0, bm⟩
   refine wp_seq (wp_region_from (Rk 0 2 [(tS 2 m i.length q)] bv bd fun c7 bw => ?_))
   refine wf (wp_ret ?_)
   obtain rfl := Option.some.inj H
   exact retO_ok (.one (.c (.slice m i.length q))) [0] bw bd (by kernel_rfl) (by kernel_rfl) (by kernel_rfl) ⟨_, _, _, rfl, rfl, bm⟩
end Go.Proofs.Ythcbemnflgjadaa
