/- Each call computes its plain function. -/
import Derived.Test.YthcbemnflgjadaaProg
import Derived.Test.YthcbemnflgjadaaNmP0
import Derived.Test.YthcbemnflgjadaaNmWA
import Derived.Test.YthcbemnflgjadaaNmWB
import Derived.Test.YthcbemnflgjadaaNmWD
import Derived.Test.YthcbemnflgjadaaNmWF
import Derived.Test.YthcbemnflgjadaaNmWG
set_option linter.all false
namespace Go.Proofs.Ythcbemnflgjadaa
open Go Go.RowKit
open Rep (rep)
open KRep (kv)
open VRep (rv)
abbrev K40c1 (a b : Option Addr) : List SC := [.slice a 2 2, .slice b 4 4, .int .i64 0]
set_option maxRecDepth 100000 in
set_option maxHeartbeats 4000000 in
theorem law_night_ok (n : Nat) {h : Heap} {w : World} (hh : Has h w)  {r : Yard} (H : law_night n  = some r) :
  Calls Try.prog 40 #[] w (Ret (fun h v => ∃ cs, v = .agg cs.toArray ∧ rep h r cs) h w) := by
 refine enter 8 [] Try.func40 rfl rfl rfl rfl fun t hk => ?_
 have hm := Mem.begin h w hh
 unfold law_night at H
 refine wp_seq (wp_region_from (wl fun K hK => ?_))
 refine wa [.slice none 0 0, .slice none 0 0, .int .i64 0] hk hm fun c aj ao (ac : Kn 8 [(c, 0)] [(tP 0 0 0)] aj) ae => hK _ _ ?_
 refine wf (wp_seq (wp_region_from (wl fun K hK => ?_)))
 refine wS 3 1 [.int .i64 2, .int .i64 2] ac ae fun a al ap (ad : Kn 8 [(c, 0)] [(tS 1 a 2 2), (tP 0 0 0)] al) p => ?_
 have f : Cells h ([2, 2] : List Int) ([.int .i64 2, .int .i64 2] : List Value) := ⟨_, _, rfl, (rep_int : rep h (2 : Int) _), ⟨_, _, rfl, (rep_int : rep h (2 : Int) _), rfl⟩⟩
 refine hK _ _ ?_
 refine Rk 1 4 [(tA 5 [.int .i64 150, .int .i64 160, .int .i64 10]), (tA 4 [.int .i64 125, .int .i64 140, .int .i64 30]), (tA 3 [.int .i64 110, .int .i64 130, .int .i64 20]), (tA 2 [.int .i64 100, .int .i64 120, .int .i64 40]), (tS 1 a 2 2), (tP 0 0 0)] ad p fun am x => ?_
 refine wl fun K hK => ?_
 refine wS 70 3 [.int .i64 100, .int .i64 120, .int .i64 40, .int .i64 110, .int .i64 130, .int .i64 20, .int .i64 125, .int .i64 140, .int .i64 30, .int .i64 150, .int .i64 160, .int .i64 10] x p fun b ai an (y : Kn 8 [(c, 0)] [(tS 6 b 4 4), (tA 5 [.int .i64 150, .int .i64 160, .int .i64 10]), (tA 4 [.int .i64 125, .int .i64 140, .int .i64 30]), (tA 3 [.int .i64 110, .int .i64 130, .int .i64 20]), (tA 2 [.int .i64 100, .int .i64 120, .int .i64 40]), (tS 1 a 2 2), (tP 0 0 0)] ai) q => ?_
 have g : Cells h ([(Bus.mk 100 120 40), (Bus.mk 110 130 20), (Bus.mk 125 140 30), (Bus.mk 150 160 10)] : List Bus) ([.int .i64 100, .int .i64 120, .int .i64 40, .int .i64 110, .int .i64 130, .int .i64 20, .int .i64 125, .int .i64 140, .int .i64 30, .int .i64 150, .int .i64 160, .int .i64 10] : List Value) := ⟨_, _, rfl, ((rep_pair rep_int (rep_pair rep_int rep_int)) : rep h ((Bus.mk 100 120 40) : Bus) _), ⟨_, _, rfl, ((rep_pair rep_int (rep_pair rep_int rep_int)) : rep h ((Bus.mk 110 130 20) : Bus) _), ⟨_, _, rfl, ((rep_pair rep_int (rep_pair rep_int rep_int)) : rep h ((Bus.mk 125 140 30) : Bus) _), ⟨_, _, rfl, ((rep_pair rep_int (rep_pair rep_int rep_int)) : rep h ((Bus.mk 150 160 10) : Bus) _), rfl⟩⟩⟩⟩
 refine hK _ _ ?_
 refine Rk 6 1 [(tA 7 (K40c1 a b)), (tP 0 0 0)] y q fun ak z => ?_
 refine wl fun K hK => ?_
 refine wst 0 0 (.agg (K40c1 a b)) (K40c1 a b) z q fun u aa s => hK _ _ ?_
 have ab : Kn 8 [(c, 0)] [(tP 0 0 0)] ak := aa.kp
 refine wf (wp_ret ?_)
 obtain ⟨l, m, ag, d⟩ := s.settle (i := 0) rfl
 replace f := f.mono m
 replace d : Mem ⟨w, h, noX⟩ l [(c, 0)] [⟨(K40c1 a b), some 33⟩] [⟨a, 2, 2, 3, 1, ([.int .i64 2, .int .i64 2] : List Value), (([.int .i64 2, .int .i64 2] : List Value) : List Value).length⟩, ⟨b, 4, 4, 70, 3, ([.int .i64 100, .int .i64 120, .int .i64 40, .int .i64 110, .int .i64 130, .int .i64 20, .int .i64 125, .int .i64 140, .int .i64 30, .int .i64 150, .int .i64 160, .int .i64 10] : List Value), 0⟩] u := d
 have k : RepS l a 2 ([2, 2] : List Int) := ⟨_, f, ag, s.rowCap (i := 0) rfl⟩
 obtain ⟨e, o, ah, j⟩ := d.settle (i := 1) rfl
 replace k := k.mono o
 replace g := g.mono (Heap.le_trans m o)
 replace j : Mem ⟨w, h, noX⟩ e [(c, 0)] [⟨(K40c1 a b), some 33⟩] [⟨a, 2, 2, 3, 1, ([.int .i64 2, .int .i64 2] : List Value), (([.int .i64 2, .int .i64 2] : List Value) : List Value).length⟩, ⟨b, 4, 4, 70, 3, ([.int .i64 100, .int .i64 120, .int .i64 40, .int .i64 110, .int .i64 130, .int .i64 20, .int .i64 125, .int .i64 140, .int .i64 30, .int .i64 150, .int .i64 160, .int .i64 10] : List Value), (([.int .i64 100, .int .i64 120, .int .i64 40, .int .i64 110, .int .i64 130, .int .i64 20, .int .i64 125, .int .i64 140, .int .i64 30, .int .i64 150, .int .i64 160, .int .i64 10] : List Value) : List Value).length⟩] u := j
 have af : RepS e b 4 ([(Bus.mk 100 120 40), (Bus.mk 110 130 20), (Bus.mk 125 140 30), (Bus.mk 150 160 10)] : List Bus) := ⟨_, g, ah, d.rowCap (i := 1) rfl⟩
 obtain rfl := Option.some.inj H
 exact rt (.one (.agg (K40c1 a b))) ab j ⟨_, rfl, ((rep_pair (rep_slice k) (rep_pair (rep_slice af) rep_int)) : rep e ((Yard.mk ([2, 2] : List Int) ([(Bus.mk 100 120 40), (Bus.mk 110 130 20), (Bus.mk 125 140 30), (Bus.mk 150 160 10)] : List Bus) 0) : Yard) _)⟩
set_option maxRecDepth 100000 in
set_option maxHeartbeats 4000000 in
theorem law_night_own (n : Nat) {h : Heap} {w : World} (hh : Has h w)  {r : Yard} (H : law_night n  = some r) :
  Calls Try.prog 40 #[] w (RetO (fun h v rs => ∃ (d : Option Addr) (f : Nat) (k : List Value) (e : Option Addr) (g : Nat) (l : List Value), v = .agg #[.slice d r.room.length f, .slice e r.buses.length g, .int .i64 r.broken] ∧ rs = [⟨d, r.room.length, f, 3, 1, k, 0⟩, ⟨e, r.buses.length, g, 70, 3, l, 0⟩] ∧ Cells h r.room k ∧ Cells h r.buses l) h w) := by
 refine enter 8 [] Try.func40 rfl rfl rfl rfl fun t hk => ?_
 have hm := Mem.begin h w hh
 unfold law_night at H
 refine wp_seq (wp_region_from (wl fun K hK => ?_))
 refine wa [.slice none 0 0, .slice none 0 0, .int .i64 0] hk hm fun c ad aj (y : Kn 8 [(c, 0)] [(tP 0 0 0)] ad) ab => hK _ _ ?_
 refine wf (wp_seq (wp_region_from (wl fun K hK => ?_)))
 refine wS 3 1 [.int .i64 2, .int .i64 2] y ab fun a af ak (z : Kn 8 [(c, 0)] [(tS 1 a 2 2), (tP 0 0 0)] af) i => ?_
 have m : Cells h ([2, 2] : List Int) ([.int .i64 2, .int .i64 2] : List Value) := ⟨_, _, rfl, (rep_int : rep h (2 : Int) _), ⟨_, _, rfl, (rep_int : rep h (2 : Int) _), rfl⟩⟩
 refine hK _ _ ?_
 refine Rk 1 4 [(tA 5 [.int .i64 150, .int .i64 160, .int .i64 10]), (tA 4 [.int .i64 125, .int .i64 140, .int .i64 30]), (tA 3 [.int .i64 110, .int .i64 130, .int .i64 20]), (tA 2 [.int .i64 100, .int .i64 120, .int .i64 40]), (tS 1 a 2 2), (tP 0 0 0)] z i fun ag p => ?_
 refine wl fun K hK => ?_
 refine wS 70 3 [.int .i64 100, .int .i64 120, .int .i64 40, .int .i64 110, .int .i64 130, .int .i64 20, .int .i64 125, .int .i64 140, .int .i64 30, .int .i64 150, .int .i64 160, .int .i64 10] p i fun b ac ah (q : Kn 8 [(c, 0)] [(tS 6 b 4 4), (tA 5 [.int .i64 150, .int .i64 160, .int .i64 10]), (tA 4 [.int .i64 125, .int .i64 140, .int .i64 30]), (tA 3 [.int .i64 110, .int .i64 130, .int .i64 20]), (tA 2 [.int .i64 100, .int .i64 120, .int .i64 40]), (tS 1 a 2 2), (tP 0 0 0)] ac) j => ?_
 have o : Cells h ([(Bus.mk 100 120 40), (Bus.mk 110 130 20), (Bus.mk 125 140 30), (Bus.mk 150 160 10)] : List Bus) ([.int .i64 100, .int .i64 120, .int .i64 40, .int .i64 110, .int .i64 130, .int .i64 20, .int .i64 125, .int .i64 140, .int .i64 30, .int .i64 150, .int .i64 160, .int .i64 10] : List Value) := ⟨_, _, rfl, ((rep_pair rep_int (rep_pair rep_int rep_int)) : rep h ((Bus.mk 100 120 40) : Bus) _), ⟨_, _, rfl, ((rep_pair rep_int (rep_pair rep_int rep_int)) : rep h ((Bus.mk 110 130 20) : Bus) _), ⟨_, _, rfl, ((rep_pair rep_int (rep_pair rep_int rep_int)) : rep h ((Bus.mk 125 140 30) : Bus) _), ⟨_, _, rfl, ((rep_pair rep_int (rep_pair rep_int rep_int)) : rep h ((Bus.mk 150 160 10) : Bus) _), rfl⟩⟩⟩⟩
 refine hK _ _ ?_
 refine Rk 6 1 [(tA 7 [.slice a 2 2, .slice b 4 4, .int .i64 0]), (tP 0 0 0)] q j fun ae s => ?_
 refine wl fun K hK => ?_
 refine wst 0 0 (.agg [.slice a 2 2, .slice b 4 4, .int .i64 0]) [.slice a 2 2, .slice b 4 4, .int .i64 0] s j fun ai u aa => hK _ _ ?_
 have x : Kn 8 [(c, 0)] [(tP 0 0 0)] ae := u.kp
 refine wf (wp_ret ?_)
 obtain rfl := Option.some.inj H
 exact retO_ok (.one (.agg [.slice a 2 2, .slice b 4 4, .int .i64 0])) [0, 1] x aa (by kernel_rfl) (by kernel_rfl) (by kernel_rfl) ⟨_, _, _, _, _, _, rfl, rfl, m, o⟩
abbrev K20m1 (a_a : Option Addr) (a : List Int) (c_a : Nat) (a_b : Option Addr) (b : List Int) (c_b : Nat) : TM := [(tS 0 a_a a.length c_a), (tS 1 a_b b.length c_b)]
set_option maxRecDepth 100000 in
set_option maxHeartbeats 4000000 in
theorem law_ints_ok (n : Nat) {h : Heap} {w : World} (hh : Has h w) (a : List Int) {a_a : Option Addr} {c_a : Nat} (hr_a : RepS h a_a c_a a) (b : List Int) {a_b : Option Addr} {c_b : Nat} (hr_b : RepS h a_b c_b b) {r : Bool} (H : law_ints n a b = some r) :
  Calls Try.prog 20 #[.slice a_a a.length c_a, .slice a_b b.length c_b] w (Ret (fun h v => v = .bool r) h w) := by
 refine enter 26 [.c (.slice a_a a.length c_a), .c (.slice a_b b.length c_b)] Try.func20 rfl rfl rfl rfl fun t hk => ?_
 have hm := Mem.begin h w hh
 unfold law_ints at H
 refine wp_seq (wp_region_from (Rk 0 1 (K20m1 a_a a c_a a_b b c_b) hk hm fun bf an => ?_))
 refine wf (wp_seq (wp_seq (wp_region_from (Rk 0 5 ((tB 10 (((a.length : Nat) : Int) != ((b.length : Nat) : Int))) :: (K20m1 a_a a c_a a_b b c_b)) an hm fun bi u => ?_))))
 refine wf (wC ((((a.length : Nat) : Int) != ((b.length : Nat) : Int))) u (fun p => ?_) (fun p => ?_))
 ·
  rw [p, cond_true] at H
  refine wp_seq (wp_region_from (Rk 0 1 [(tB 4 false)] u hm fun bm az => ?_))
  refine wf (wp_ret ?_)
  obtain rfl := Option.some.inj H
  exact rt (.one (.c (.bool false))) az hm rfl
 ·
  rw [p, cond_false] at H
  refine wp_skip (wp_seq (wp_seq (wp_region_from (Rk 0 1 ((tI 5 0) :: (K20m1 a_a a c_a a_b b c_b)) u hm fun bp a0 => ?_))))
  refine wf ?_
  obtain ⟨ag, ae, H⟩ := bnd H
  refine wp_mid' (fun a' w' => ∃ (ai : Unit) (ab : Array Value) (k : Heap), a' = ⟨ab, []⟩ ∧ Kn 26 [] [] ab ∧ Mem ⟨w, h, noX⟩ k [] [] [] w' ∧ Heap.le h k ∧ ag = .go ai) ?_ ?_
  ·
   refine wp_block ?_
   refine wp_loop_n (fun a9 a' w' => ∃ (x_v10 : Int) (ac : Array Value) (l : Heap), a' = ⟨ac, []⟩ ∧ Kn 26 [] ((tI 5 x_v10) :: (K20m1 a_a a c_a a_b b c_b)) ac ∧ Mem ⟨w, h, noX⟩ l [] [] [] w' ∧ Heap.le h l ∧ law_ints_l1 a9 a b x_v10 = some ag) n ?_ ?_
   ·
    exact Exists.intro 0 ⟨_, _, rfl, a0.kp, hm, (Heap.le_refl _), ae⟩
   ·
    rintro z _ bq ⟨x_v10, ac, l, rfl, ao, e, g, d⟩
    clear ae
    obtain _ | z := z
    ·
     rw [law_ints_l1] at d; cases d
    rw [law_ints_l1] at d
    replace hr_a := hr_a.mono g
    replace hr_b := hr_b.mono g
    refine wp_seq (wp_seq (wp_region_from (Rk 0 4 ((tB 14 (decide (x_v10 < ((a.length : Nat) : Int)))) :: (tI 5 x_v10) :: (K20m1 a_a a c_a a_b b c_b)) ao e fun bg s => ?_)))
    refine wf (wC (decide (x_v10 < ((a.length : Nat) : Int))) s (fun m => ?_) (fun m => ?_))
    ·
     rw [m, cond_true] at d
     refine wp_skip (wp_seq (wp_block (wp_seq (wp_region_G (by kernel_rfl) ?_))))
     replace e := e.drew
     refine wpG_of_D [] [] [] ?_
     refine Dr [0, 1] [1, 0] ((tI 18 x_v10) :: (tS 17 a_a a.length c_a) :: (tI 5 x_v10) :: (K20m1 a_a a c_a a_b b c_b)) s e fun bh ap => ?_
     obtain ⟨x19, ex19, d⟩ := bnd d
     obtain ⟨a1, a3, a7⟩ := idx_some ex19
     obtain ⟨i, aa, bc, aj, a5, al⟩ := hr_a.get (by decide) a7
     obtain rfl := a5
     have y := e.addPlc (b := i) (o := aa + (x_v10 : Int).toNat * 1) (cs := [.int .i64 x19]) (fun j c hj => al j _ (map_get hj)) rfl (by kernel_rfl) (by kernel_rfl)
     refine D_index 2 (x_v10) [.int .i64 x19] (fun _ _ _ _ _ h => h) rfl rfl (rfl) rfl (by decide) (by kernel_rfl) (by kernel_rfl) ap e.plOk (by rfl) (by rfl) (by rfl) aj (by rfl) a1 a3 (by kernel_rfl) fun ba (aq : Kn 26 [(i, aa + (x_v10 : Int).toNat * 1)] ((tP 19 0 0) :: (tI 18 x_v10) :: (tS 17 a_a a.length c_a) :: (tI 5 x_v10) :: (K20m1 a_a a c_a a_b b c_b)) ba) => ?_
     refine Dr [3, 4, 5] (dn 5) ((tI 22 x_v10) :: (tS 21 a_b b.length c_b) :: (tI 20 x19) :: (tI 5 x_v10) :: (K20m1 a_a a c_a a_b b c_b)) aq y fun bj ar => ?_
     obtain ⟨x23, ex23, d⟩ := bnd d
     obtain ⟨a2, a4, a8⟩ := idx_some ex23
     obtain ⟨ad, ah, bd, ak, a6, am⟩ := hr_b.get (by decide) a8
     obtain rfl := a6
     have f := y.addPlc (b := ad) (o := ah + (x_v10 : Int).toNat * 1) (cs := [.int .i64 x23]) (fun j c hj => am j _ (map_get hj)) rfl (by kernel_rfl) (by kernel_rfl)
     refine D_index 6 (x_v10) [.int .i64 x23] (fun _ _ _ _ _ h => h) rfl rfl (rfl) rfl (by decide) (by kernel_rfl) (by kernel_rfl) ar y.plOk (by rfl) (by rfl) (by rfl) ak (by rfl) a2 a4 (by kernel_rfl) fun bb (au : Kn 26 [(i, aa + (x_v10 : Int).toNat * 1), (ad, ah + (x_v10 : Int).toNat * 1)] ((tP 23 1 0) :: (tI 22 x_v10) :: (tS 21 a_b b.length c_b) :: (tI 20 x19) :: (tI 5 x_v10) :: (K20m1 a_a a c_a a_b b c_b)) bb) => ?_
     refine Dr [7, 8] (dn 8) ((tB 25 (x19 != x23)) :: (tI 5 x_v10) :: (K20m1 a_a a c_a a_b b c_b)) au f fun bk x => ?_
     refine wpD_end (by kernel_rfl) (wC ((x19 != x23)) x (fun q => ?_) (fun q => ?_))
     ·
      rw [q, cond_true] at d
      refine wp_seq (wp_region_from (Rk 0 1 [(tB 4 false)] x f fun bl av => ?_))
      refine wf (wp_ret ?_)
      obtain rfl := Option.some.inj d
      obtain rfl := Option.some.inj H
      exact rt (.one (.c (.bool false))) av f rfl
     ·
      rw [q, cond_false] at d
      refine wp_skip (wp_region_from (Rk 0 3 ((tI 5 (IntKind.i64.wrap (x_v10 + 1))) :: (K20m1 a_a a c_a a_b b c_b)) x f fun bn aw => ?_))
      refine wf ?_
      exact Exists.intro z ⟨Nat.lt_succ_self _, Exists.intro (IntKind.i64.wrap (x_v10 + 1)) ⟨_, _, rfl, ((aw.keep [5, 0, 1] (by rfl)).cut 0 (by kernel_rfl)), (f.cutPl 0 (by kernel_rfl)), g, d⟩⟩
    ·
     rw [m, cond_false] at d
     refine wp_exit ?_
     obtain rfl := Option.some.inj d
     exact Exists.intro () ⟨_, _, rfl, s.kp, e, g, rfl⟩
  ·
   rintro _ br ⟨ai, ab, k, rfl, ax, af, be, rfl⟩
   rw [Ex.bind_go] at H
   refine wp_seq (wp_region_from (Rk 0 1 [(tB 4 true)] ax af fun bo ay => ?_))
   refine wf (wp_ret ?_)
   obtain rfl := Option.some.inj H
   exact rt (.one (.c (.bool true))) ay af rfl
abbrev K15c1 (p : Option Addr) (x11 : Yard) (q : Nat) (o : Option Addr) (s : Nat) : List SC := [.slice p x11.room.length q, .slice o x11.buses.length s, .int .i64 x11.broken]
abbrev K15c2 (x : Option Addr) (x18 : Yard) (aa : Nat) (y : Option Addr) (ab : Nat) : List SC := [.slice x x18.room.length aa, .slice y x18.buses.length ab, .int .i64 x18.broken]
abbrev K15m3 (x27 : (List Int) × Int × Int) (a : Option Addr) (b : Nat) (x20 : (List Int) × (List Int) × Int × Int) : TM := [(tI 9 x27.2.2), (tI 8 x27.2.1), (tS 7 a x27.1.length b), (tI 6 x20.2.2.2), (tI 5 x20.2.2.1)]
set_option maxRecDepth 100000 in
set_option maxHeartbeats 4000000 in
theorem law_awake_ok (n : Nat) {h : Heap} {w : World} (hh : Has h w)  {r : Bool} (H : law_awake n  = some r) :
  Calls Try.prog 15 #[] w (Ret (fun h v => v = .bool r) h w) := by
 refine enter 59 [] Try.func15 rfl rfl rfl rfl fun t hk => ?_
 have hm := Mem.begin h w hh
 unfold law_awake at H
 refine wp_seq (wp_region_from (Rk 0 1 [] hk hm fun es df => ?_))
 refine wf (wp_seq (wp_region_from ?_))
 obtain ⟨x11, ex11, H⟩ := bnd H
 refine wl fun K hK => ?_
 refine wc [] df hm (law_night_ok n hm.has  ex11) fun e8 j fi cq eo dv => ?_
 obtain ⟨_, rfl, ⟨_, _, rfl, ⟨p, q, rfl, bk⟩, ⟨_, _, rfl, ⟨o, s, rfl, bm⟩, rfl⟩⟩⟩ := cq
 refine ⟨.one (.agg (K15c1 p x11 q o s)), rfl, fun d8 (c2 : Kn 59 [] [(tA 11 (K15c1 p x11 q o s))] d8) => hK _ _ ?_⟩
 refine wl fun K hK => ?_
 refine wS 3 1 [.int .i64 0, .int .i64 0, .int .i64 1, .int .i64 1] c2 dv fun g ea fg (dg : Kn 59 [] [(tS 12 g 4 4), (tA 11 (K15c1 p x11 q o s))] ea) dt => ?_
 have ac : Cells j ([0, 0, 1, 1] : List Int) ([.int .i64 0, .int .i64 0, .int .i64 1, .int .i64 1] : List Value) := ⟨_, _, rfl, (rep_int : rep j (0 : Int) _), ⟨_, _, rfl, (rep_int : rep j (0 : Int) _), ⟨_, _, rfl, (rep_int : rep j (1 : Int) _), ⟨_, _, rfl, (rep_int : rep j (1 : Int) _), rfl⟩⟩⟩⟩
 refine hK _ _ ?_
 refine wl fun K hK => ?_
 refine wS 3 1 [.int .i64 0, .int .i64 1, .int .i64 2, .int .i64 3] dg dt fun k ec ck (dl : Kn 59 [] [(tS 13 k 4 4), (tS 12 g 4 4), (tA 11 (K15c1 p x11 q o s))] ec) cb => ?_
 have ad : Cells j ([0, 1, 2, 3] : List Int) ([.int .i64 0, .int .i64 1, .int .i64 2, .int .i64 3] : List Value) := ⟨_, _, rfl, (rep_int : rep j (0 : Int) _), ⟨_, _, rfl, (rep_int : rep j (1 : Int) _), ⟨_, _, rfl, (rep_int : rep j (2 : Int) _), ⟨_, _, rfl, (rep_int : rep j (3 : Int) _), rfl⟩⟩⟩⟩
 refine hK _ _ ?_
 obtain ⟨bv, a7, d1, bb⟩ := cb.settle (i := 0) rfl
 replace ac := ac.mono a7
 replace bb : Mem ⟨w, h, noX⟩ bv [] [] [⟨g, 4, 4, 3, 1, ([.int .i64 0, .int .i64 0, .int .i64 1, .int .i64 1] : List Value), (([.int .i64 0, .int .i64 0, .int .i64 1, .int .i64 1] : List Value) : List Value).length⟩, ⟨k, 4, 4, 3, 1, ([.int .i64 0, .int .i64 1, .int .i64 2, .int .i64 3] : List Value), 0⟩] ck := bb
 have ai : RepS bv g 4 ([0, 0, 1, 1] : List Int) := ⟨_, ac, d1, cb.rowCap (i := 0) rfl⟩
 obtain ⟨bf, ax, d2, bc⟩ := bb.settle (i := 1) rfl
 replace bk := bk.mono (Heap.le_trans a7 ax)
 replace bm := bm.mono (Heap.le_trans a7 ax)
 replace ai := ai.mono ax
 replace ad := ad.mono (Heap.le_trans a7 ax)
 replace bc : Mem ⟨w, h, noX⟩ bf [] [] [⟨g, 4, 4, 3, 1, ([.int .i64 0, .int .i64 0, .int .i64 1, .int .i64 1] : List Value), (([.int .i64 0, .int .i64 0, .int .i64 1, .int .i64 1] : List Value) : List Value).length⟩, ⟨k, 4, 4, 3, 1, ([.int .i64 0, .int .i64 1, .int .i64 2, .int .i64 3] : List Value), (([.int .i64 0, .int .i64 1, .int .i64 2, .int .i64 3] : List Value) : List Value).length⟩] ck := bc
 have a0 : RepS bf k 4 ([0, 1, 2, 3] : List Int) := ⟨_, ad, d2, bb.rowCap (i := 1) rfl⟩
 obtain ⟨x14, ex14, H⟩ := bnd H
 refine wl fun K hK => ?_
 refine wc [.agg (K15c1 p x11 q o s), .c (.slice g 4 4), .c (.slice k 4 4), .c (.slice none 0 0)] dl bc (lane_Shunts_ok n bc.has x11 ((rep_pair (rep_slice bk) (rep_pair (rep_slice bm) rep_int)) : rep bf x11 _) ([0, 0, 1, 1] : List Int) ai ([0, 1, 2, 3] : List Int) a0 ([] : List Int) RepS.nil ex14) fun e9 el fh co a8 bi => ?_
 obtain ⟨_, _, rfl, ⟨d, e, rfl, a1⟩, rfl⟩ := co
 refine ⟨.tup [.c (.slice d x14.1.length e), .c (.int .i64 x14.2)], rfl, fun ed (dm : Kn 59 [] [(14, .tup [.c (.slice d x14.1.length e), .c (.int .i64 x14.2)]), (tS 13 k 4 4), (tS 12 g 4 4), (tA 11 (K15c1 p x11 q o s))] ed) => hK _ _ ?_⟩
 refine Rk 4 5 [(tI 2 x14.2), (tS 1 d x14.1.length e)] dm bi fun e3 dn => ?_
 refine wf (wp_seq (wp_region_from ?_))
 obtain ⟨x18, ex18, H⟩ := bnd H
 refine wl fun K hK => ?_
 refine wc [] dn bi (law_night_ok n bi.has  ex18) fun fa an fj cp ay du => ?_
 obtain ⟨_, rfl, ⟨_, _, rfl, ⟨x, aa, rfl, bn⟩, ⟨_, _, rfl, ⟨y, ab, rfl, bo⟩, rfl⟩⟩⟩ := cp
 refine ⟨.one (.agg (K15c2 x x18 aa y ab)), rfl, fun ee (dp : Kn 59 [] [(tA 18 (K15c2 x x18 aa y ab)), (tI 2 x14.2), (tS 1 d x14.1.length e)] ee) => hK _ _ ?_⟩
 refine wl fun K hK => ?_
 refine wS 3 1 [.int .i64 0, .int .i64 1, .int .i64 1, .int .i64 0] dp du fun z ef ej (dq : Kn 59 [] [(tS 19 z 4 4), (tA 18 (K15c2 x x18 aa y ab)), (tI 2 x14.2), (tS 1 d x14.1.length e)] ef) cc => ?_
 have ae : Cells an ([0, 1, 1, 0] : List Int) ([.int .i64 0, .int .i64 1, .int .i64 1, .int .i64 0] : List Value) := ⟨_, _, rfl, (rep_int : rep an (0 : Int) _), ⟨_, _, rfl, (rep_int : rep an (1 : Int) _), ⟨_, _, rfl, (rep_int : rep an (1 : Int) _), ⟨_, _, rfl, (rep_int : rep an (0 : Int) _), rfl⟩⟩⟩⟩
 refine hK _ _ ?_
 obtain ⟨bg, u, d3, bd⟩ := cc.settle (i := 2) rfl
 replace bn := bn.mono u
 replace bo := bo.mono u
 replace ae := ae.mono u
 replace bd : Mem ⟨w, h, noX⟩ bg [] [] [⟨g, 4, 4, 3, 1, ([.int .i64 0, .int .i64 0, .int .i64 1, .int .i64 1] : List Value), (([.int .i64 0, .int .i64 0, .int .i64 1, .int .i64 1] : List Value) : List Value).length⟩, ⟨k, 4, 4, 3, 1, ([.int .i64 0, .int .i64 1, .int .i64 2, .int .i64 3] : List Value), (([.int .i64 0, .int .i64 1, .int .i64 2, .int .i64 3] : List Value) : List Value).length⟩, ⟨z, 4, 4, 3, 1, ([.int .i64 0, .int .i64 1, .int .i64 1, .int .i64 0] : List Value), (([.int .i64 0, .int .i64 1, .int .i64 1, .int .i64 0] : List Value) : List Value).length⟩] ej := bd
 have a2 : RepS bg z 4 ([0, 1, 1, 0] : List Int) := ⟨_, ae, d3, cc.rowCap (i := 2) rfl⟩
 obtain ⟨x20, ex20, H⟩ := bnd H
 refine wl fun K hK => ?_
 refine wc [.agg (K15c2 x x18 aa y ab), .c (.slice z 4 4)] dq bd (lane_Worst_ok n bd.has x18 ((rep_pair (rep_slice bn) (rep_pair (rep_slice bo) rep_int)) : rep bg x18 _) ([0, 1, 1, 0] : List Int) a2 ex20) fun fb em fk cr ag bj => ?_
 obtain ⟨_, _, _, _, rfl, ⟨bp, br, rfl, ep⟩, ⟨bq, bs, rfl, er⟩, rfl, rfl⟩ := cr
 refine ⟨.tup [.c (.slice bp x20.1.length br), .c (.slice bq x20.2.1.length bs), .c (.int .i64 x20.2.2.1), .c (.int .i64 x20.2.2.2)], rfl, fun eg (dr : Kn 59 [] [(20, .tup [.c (.slice bp x20.1.length br), .c (.slice bq x20.2.1.length bs), .c (.int .i64 x20.2.2.1), .c (.int .i64 x20.2.2.2)]), (tS 19 z 4 4), (tA 18 (K15c2 x x18 aa y ab)), (tI 2 x14.2), (tS 1 d x14.1.length e)] eg) => hK _ _ ?_⟩
 refine Rk 3 9 [(tI 6 x20.2.2.2), (tI 5 x20.2.2.1), (tI 2 x14.2), (tS 1 d x14.1.length e)] dr bj fun e4 ds => ?_
 refine wf (wp_seq (wp_region_from ?_))
 obtain ⟨x26, ex26, H⟩ := bnd H
 refine wl fun K hK => ?_
 refine wc [] ds bj (law_night_ok n bj.has  ex26) fun fc ct fl cs ah cd => ?_
 obtain ⟨_, rfl, ⟨_, _, rfl, ⟨a4, a5, rfl, dw⟩, ⟨_, _, rfl, ⟨a3, a6, rfl, dx⟩, rfl⟩⟩⟩ := cs
 refine ⟨.one (.agg [.slice a4 x26.room.length a5, .slice a3 x26.buses.length a6, .int .i64 x26.broken]), rfl, fun d4 (cu : Kn 59 [] [(tA 26 [.slice a4 x26.room.length a5, .slice a3 x26.buses.length a6, .int .i64 x26.broken]), (tI 6 x20.2.2.2), (tI 5 x20.2.2.1), (tI 2 x14.2), (tS 1 d x14.1.length e)] d4) => hK _ _ ?_⟩
 obtain ⟨x27, ex27, H⟩ := bnd H
 refine wl fun K hK => ?_
 refine wc [.agg [.slice a4 x26.room.length a5, .slice a3 x26.buses.length a6, .int .i64 x26.broken]] cu cd (lane_Best_ok n cd.has x26 ((rep_pair (rep_slice dw) (rep_pair (rep_slice dx) rep_int)) : rep ct x26 _) ex27) fun e5 be fd cl af ak => ?_
 replace ai := ai.mono (Heap.le_trans (Heap.le_trans (Heap.le_trans (Heap.le_trans (Heap.le_trans a8 ay) u) ag) ah) af)
 replace a0 := a0.mono (Heap.le_trans (Heap.le_trans (Heap.le_trans (Heap.le_trans (Heap.le_trans a8 ay) u) ag) ah) af)
 replace a1 := a1.mono (Heap.le_trans (Heap.le_trans (Heap.le_trans (Heap.le_trans ay u) ag) ah) af)
 replace a2 := a2.mono (Heap.le_trans (Heap.le_trans ag ah) af)
 replace ac := ac.mono (Heap.le_trans (Heap.le_trans (Heap.le_trans (Heap.le_trans (Heap.le_trans (Heap.le_trans ax a8) ay) u) ag) ah) af)
 replace ad := ad.mono (Heap.le_trans (Heap.le_trans (Heap.le_trans (Heap.le_trans (Heap.le_trans a8 ay) u) ag) ah) af)
 replace ae := ae.mono (Heap.le_trans (Heap.le_trans ag ah) af)
 obtain ⟨_, _, _, rfl, ⟨a, b, rfl, az⟩, rfl, rfl⟩ := cl
 refine ⟨.tup [.c (.slice a x27.1.length b), .c (.int .i64 x27.2.1), .c (.int .i64 x27.2.2)], rfl, fun d5 (cv : Kn 59 [] [(27, .tup [.c (.slice a x27.1.length b), .c (.int .i64 x27.2.1), .c (.int .i64 x27.2.2)]), (tA 26 [.slice a4 x26.room.length a5, .slice a3 x26.buses.length a6, .int .i64 x26.broken]), (tI 6 x20.2.2.2), (tI 5 x20.2.2.1), (tI 2 x14.2), (tS 1 d x14.1.length e)] d5) => hK _ _ ?_⟩
 refine Rk 2 7 [(tI 9 x27.2.2), (tI 8 x27.2.1), (tS 7 a x27.1.length b), (tI 6 x20.2.2.2), (tI 5 x20.2.2.1), (tI 2 x14.2), (tS 1 d x14.1.length e)] cv ak fun et cw => ?_
 refine wf (wp_seq (wp_region_from (Rk 0 3 [(tB 33 (x14.2 == 0)), (tI 9 x27.2.2), (tI 8 x27.2.1), (tS 7 a x27.1.length b), (tI 6 x20.2.2.2), (tI 5 x20.2.2.1), (tS 1 d x14.1.length e)] cw ak fun ce bw => ?_)))
 rcases Bool.eq_false_or_eq_true ((x14.2 == 0)) with ao | ao
 ·
  rw [ao, cond_true] at H
  have cx : Kn 59 [] [(tB 33 true), (tI 9 x27.2.2), (tI 8 x27.2.1), (tS 7 a x27.1.length b), (tI 6 x20.2.2.2), (tI 5 x20.2.2.1), (tS 1 d x14.1.length e)] ce := (bw.setB 33 true (by rfl) ao).kp
  refine Rk 3 1 ((tS 34 d x14.1.length e) :: (tB 33 true) :: (K15m3 x27 a b x20)) cx ak fun eu bx => ?_
  refine wpFrom_loud _ rfl (wantedS_sound bx (by kernel_rfl)) fun K hK => ?_
  refine wS 3 1 [.int .i64 0, .int .i64 2] bx ak fun aj d6 eh (bz : Kn 59 [] ((tS 35 aj 2 2) :: (tS 34 d x14.1.length e) :: (tB 33 true) :: (K15m3 x27 a b x20)) d6) b8 => ?_
  have aw : Cells be ([0, 2] : List Int) ([.int .i64 0, .int .i64 2] : List Value) := ⟨_, _, rfl, (rep_int : rep be (0 : Int) _), ⟨_, _, rfl, (rep_int : rep be (2 : Int) _), rfl⟩⟩
  refine hK _ _ ?_
  obtain ⟨bt, l, dz, a9⟩ := b8.settle (i := 3) rfl
  replace a1 := a1.mono l
  replace aw := aw.mono l
  replace a9 : Mem ⟨w, h, noX⟩ bt [] [] [⟨g, 4, 4, 3, 1, ([.int .i64 0, .int .i64 0, .int .i64 1, .int .i64 1] : List Value), (([.int .i64 0, .int .i64 0, .int .i64 1, .int .i64 1] : List Value) : List Value).length⟩, ⟨k, 4, 4, 3, 1, ([.int .i64 0, .int .i64 1, .int .i64 2, .int .i64 3] : List Value), (([.int .i64 0, .int .i64 1, .int .i64 2, .int .i64 3] : List Value) : List Value).length⟩, ⟨z, 4, 4, 3, 1, ([.int .i64 0, .int .i64 1, .int .i64 1, .int .i64 0] : List Value), (([.int .i64 0, .int .i64 1, .int .i64 1, .int .i64 0] : List Value) : List Value).length⟩, ⟨aj, 2, 2, 3, 1, ([.int .i64 0, .int .i64 2] : List Value), (([.int .i64 0, .int .i64 2] : List Value) : List Value).length⟩] eh := a9
  have bl : RepS bt aj 2 ([0, 2] : List Int) := ⟨_, aw, dz, b8.rowCap (i := 3) rfl⟩
  obtain ⟨x36, ex36, H⟩ := bnd H
  refine wpFrom_loud _ rfl (wantedS_sound bz (by kernel_rfl)) fun K hK => ?_
  refine wc [.c (.slice d x14.1.length e), .c (.slice aj 2 2)] bz a9 (law_ints_ok n a9.has x14.1 a1 ([0, 2] : List Int) bl ex36) fun e6 am fe cm m f => ?_
  replace ai := ai.mono (Heap.le_trans l m)
  replace a0 := a0.mono (Heap.le_trans l m)
  replace a2 := a2.mono (Heap.le_trans l m)
  replace az := az.mono (Heap.le_trans l m)
  replace bl := bl.mono m
  replace ac := ac.mono (Heap.le_trans l m)
  replace ad := ad.mono (Heap.le_trans l m)
  replace ae := ae.mono (Heap.le_trans l m)
  replace aw := aw.mono m
  obtain rfl := cm
  refine ⟨.one (.c (.bool x36)), rfl, fun d7 (cy : Kn 59 [] ((tB 36 x36) :: (tS 35 aj 2 2) :: (tS 34 d x14.1.length e) :: (tB 33 true) :: (K15m3 x27 a b x20)) d7) => hK _ _ ?_⟩
  refine Rk 6 2 ((tB 38 x36) :: (K15m3 x27 a b x20)) cy f fun cf b0 => ?_
  rcases Bool.eq_false_or_eq_true (x36) with ap | ap
  ·
   rw [cond_t ap] at H
   have cz : Kn 59 [] ((tB 38 true) :: (K15m3 x27 a b x20)) cf := (b0.setB 38 true (by rfl) ap).kp
   refine Rk 8 4 [(tB 42 (x20.2.2.2 == 0)), (tI 9 x27.2.2), (tI 8 x27.2.1), (tS 7 a x27.1.length b), (tI 5 x20.2.2.1)] cz f fun cg b1 => ?_
   rcases Bool.eq_false_or_eq_true ((x20.2.2.2 == 0)) with aq | aq
   ·
    rw [aq, cond_true] at H
    have c0 : Kn 59 [] [(tB 42 true), (tI 9 x27.2.2), (tI 8 x27.2.1), (tS 7 a x27.1.length b), (tI 5 x20.2.2.1)] cg := (b1.setB 42 true (by rfl) aq).kp
    refine Rk 12 4 [(tB 46 (x20.2.2.1 == 2)), (tI 9 x27.2.2), (tI 8 x27.2.1), (tS 7 a x27.1.length b)] c0 f fun ch b2 => ?_
    rcases Bool.eq_false_or_eq_true ((x20.2.2.1 == 2)) with ar | ar
    ·
     rw [ar, cond_true] at H
     have c1 : Kn 59 [] [(tB 46 true), (tI 9 x27.2.2), (tI 8 x27.2.1), (tS 7 a x27.1.length b)] ch := (b2.setB 46 true (by rfl) ar).kp
     refine Rk 16 4 [(tB 50 (x27.2.2 == 0)), (tI 8 x27.2.1), (tS 7 a x27.1.length b)] c1 f fun ci b3 => ?_
     rcases Bool.eq_false_or_eq_true ((x27.2.2 == 0)) with au | au
     ·
      rw [au, cond_true] at H
      have c3 : Kn 59 [] [(tB 50 true), (tI 8 x27.2.1), (tS 7 a x27.1.length b)] ci := (b3.setB 50 true (by rfl) au).kp
      refine Rk 20 4 [(tB 54 (x27.2.1 == 2)), (tS 7 a x27.1.length b)] c3 f fun cj b4 => ?_
      rcases Bool.eq_false_or_eq_true ((x27.2.1 == 2)) with av | av
      ·
       rw [av, cond_true] at H
       have c4 : Kn 59 [] [(tB 54 true), (tS 7 a x27.1.length b)] cj := (b4.setB 54 true (by rfl) av).kp
       refine Rk 24 1 [(tS 55 a x27.1.length b), (tB 54 true)] c4 f fun ev b5 => ?_
       refine wpFrom_loud _ rfl (wantedS_sound b5 (by kernel_rfl)) fun K hK => ?_
       refine wS 3 1 [.int .i64 0, .int .i64 0, .int .i64 1, .int .i64 1] b5 f fun al d9 ei (b6 : Kn 59 [] [(tS 56 al 4 4), (tS 55 a x27.1.length b), (tB 54 true)] d9) b9 => ?_
       have bh : Cells am ([0, 0, 1, 1] : List Int) ([.int .i64 0, .int .i64 0, .int .i64 1, .int .i64 1] : List Value) := ⟨_, _, rfl, (rep_int : rep am (0 : Int) _), ⟨_, _, rfl, (rep_int : rep am (0 : Int) _), ⟨_, _, rfl, (rep_int : rep am (1 : Int) _), ⟨_, _, rfl, (rep_int : rep am (1 : Int) _), rfl⟩⟩⟩⟩
       refine hK _ _ ?_
       obtain ⟨bu, b7, d0, ba⟩ := b9.settle (i := 4) rfl
       replace az := az.mono b7
       replace bh := bh.mono b7
       replace ba : Mem ⟨w, h, noX⟩ bu [] [] [⟨g, 4, 4, 3, 1, ([.int .i64 0, .int .i64 0, .int .i64 1, .int .i64 1] : List Value), (([.int .i64 0, .int .i64 0, .int .i64 1, .int .i64 1] : List Value) : List Value).length⟩, ⟨k, 4, 4, 3, 1, ([.int .i64 0, .int .i64 1, .int .i64 2, .int .i64 3] : List Value), (([.int .i64 0, .int .i64 1, .int .i64 2, .int .i64 3] : List Value) : List Value).length⟩, ⟨z, 4, 4, 3, 1, ([.int .i64 0, .int .i64 1, .int .i64 1, .int .i64 0] : List Value), (([.int .i64 0, .int .i64 1, .int .i64 1, .int .i64 0] : List Value) : List Value).length⟩, ⟨aj, 2, 2, 3, 1, ([.int .i64 0, .int .i64 2] : List Value), (([.int .i64 0, .int .i64 2] : List Value) : List Value).length⟩, ⟨al, 4, 4, 3, 1, ([.int .i64 0, .int .i64 0, .int .i64 1, .int .i64 1] : List Value), (([.int .i64 0, .int .i64 0, .int .i64 1, .int .i64 1] : List Value) : List Value).length⟩] ei := ba
       have dy : RepS bu al 4 ([0, 0, 1, 1] : List Int) := ⟨_, bh, d0, b9.rowCap (i := 4) rfl⟩
       obtain ⟨x57, ex57, H⟩ := bnd H
       refine wpFrom_loud _ rfl (wantedS_sound b6 (by kernel_rfl)) fun K hK => ?_
       refine wc [.c (.slice a x27.1.length b), .c (.slice al 4 4)] b6 ba (law_ints_ok n ba.has x27.1 az ([0, 0, 1, 1] : List Int) dy ex57) fun e7 ek ff cn en ca => ?_
       obtain rfl := cn
       refine ⟨.one (.c (.bool x57)), rfl, fun eb (c5 : Kn 59 [] [(tB 57 x57), (tS 56 al 4 4), (tS 55 a x27.1.length b), (tB 54 true)] eb) => hK _ _ ?_⟩
       refine Rk 27 2 [(tB 0 x57)] c5 ca fun ew c6 => ?_
       refine wf (wp_ret ?_)
       obtain rfl := Option.some.inj H
       exact rt (.one (.c (.bool x57))) c6 ca rfl
      ·
       rw [av, cond_false] at H
       have c7 : Kn 59 [] [(tB 54 false), (tS 7 a x27.1.length b)] cj := (b4.setB 54 false (by rfl) av).kp
       refine Rk 24 5 [(tB 0 false)] c7 f fun ex c8 => ?_
       refine wf (wp_ret ?_)
       obtain rfl := Option.some.inj H
       exact rt (.one (.c (.bool false))) c8 f rfl
     ·
      rw [au, cond_false] at H
      have c9 : Kn 59 [] [(tB 50 false), (tI 8 x27.2.1), (tS 7 a x27.1.length b)] ci := (b3.setB 50 false (by rfl) au).kp
      refine Rk 20 9 [(tB 0 false)] c9 f fun ey da => ?_
      refine wf (wp_ret ?_)
      obtain rfl := Option.some.inj H
      exact rt (.one (.c (.bool false))) da f rfl
    ·
     rw [ar, cond_false] at H
     have db : Kn 59 [] [(tB 46 false), (tI 9 x27.2.2), (tI 8 x27.2.1), (tS 7 a x27.1.length b)] ch := (b2.setB 46 false (by rfl) ar).kp
     refine Rk 16 13 [(tB 0 false)] db f fun ez dc => ?_
     refine wf (wp_ret ?_)
     obtain rfl := Option.some.inj H
     exact rt (.one (.c (.bool false))) dc f rfl
   ·
    rw [aq, cond_false] at H
    have dd : Kn 59 [] [(tB 42 false), (tI 9 x27.2.2), (tI 8 x27.2.1), (tS 7 a x27.1.length b), (tI 5 x20.2.2.1)] cg := (b1.setB 42 false (by rfl) aq).kp
    refine Rk 12 17 [(tB 0 false)] dd f fun e0 de => ?_
    refine wf (wp_ret ?_)
    obtain rfl := Option.some.inj H
    exact rt (.one (.c (.bool false))) de f rfl
  ·
   rw [cond_f ap] at H
   have dh : Kn 59 [] ((tB 38 false) :: (K15m3 x27 a b x20)) cf := (b0.setB 38 false (by rfl) ap).kp
   refine Rk 8 21 [(tB 0 false)] dh f fun e1 di => ?_
   refine wf (wp_ret ?_)
   obtain rfl := Option.some.inj H
   exact rt (.one (.c (.bool false))) di f rfl
 ·
  rw [ao, cond_false] at H
  have dj : Kn 59 [] [(tB 33 false), (tI 9 x27.2.2), (tI 8 x27.2.1), (tS 7 a x27.1.length b), (tI 6 x20.2.2.2), (tI 5 x20.2.2.1), (tS 1 d x14.1.length e)] ce := (bw.setB 33 false (by rfl) ao).kp
  refine Rk 3 26 [(tB 0 false)] dj ak fun e2 dk => ?_
  refine wf (wp_ret ?_)
  obtain rfl := Option.some.inj H
  exact rt (.one (.c (.bool false))) dk ak rfl
abbrev K38c1 (a : Option Addr) (y : Yard) (d : Nat) (b : Option Addr) (e : Nat) : List SC := [.slice a y.room.length d, .slice b y.buses.length e, .int .i64 y.broken]
set_option maxRecDepth 100000 in
set_option maxHeartbeats 4000000 in
theorem lane_CheckYard_ok (n : Nat) {h : Heap} {w : World} (hh : Has h w) (y : Yard) {cs_y : List Value} (hx_y : rep h y cs_y) {r : Int} (H : lane_CheckYard n y = some r) :
  Calls Try.prog 38 #[.agg cs_y.toArray] w (Ret (fun h v => v = .int .i64 r) h w) := by
 obtain ⟨_, _, rfl, ⟨a, d, rfl, q⟩, ⟨_, _, rfl, ⟨b, e, rfl, s⟩, rfl⟩⟩ := hx_y
 refine enter 5 [.agg (K38c1 a y d b e)] Try.func38 rfl rfl rfl rfl fun t hk => ?_
 have hm := Mem.begin h w hh
 unfold lane_CheckYard at H
 refine wp_seq (wp_region_from (wl fun K hK => ?_))
 refine wb (.agg (K38c1 a y d b e)) hk hm fun g x ag (k : Kn 5 [(g, 0)] [(tP 1 0 0), (tA 0 (K38c1 a y d b e))] x) f => hK _ _ ?_
 refine Rk 1 1 [(tP 1 0 0)] k f fun ab l => ?_
 refine wf (wp_seq (wp_region_from (Rk 0 1 [(tA 3 (K38c1 a y d b e))] l f fun ac m => ?_)))
 obtain ⟨x4, ex4, H⟩ := bnd H
 refine wl fun K hK => ?_
 refine wc [.agg (K38c1 a y d b e)] m f (lane_Yard_check_ok n f.has y ((rep_pair (rep_slice q) (rep_pair (rep_slice s) rep_int)) : rep h y _) ex4) fun ae z af j aa i => ?_
 obtain rfl := j
 refine ⟨.one (.c (.int .i64 x4)), rfl, fun u (o : Kn 5 [(g, 0)] [(tI 4 x4), (tA 3 (K38c1 a y d b e))] u) => hK _ _ ?_⟩
 refine Rk 2 1 [(tI 2 x4)] o i fun ad p => ?_
 refine wf (wp_ret ?_)
 obtain rfl := Option.some.inj H
 exact rt (.one (.c (.int .i64 x4))) p i rfl
abbrev K35c1 (a : Option Addr) (y : Yard) (d : Nat) (b : Option Addr) (e : Nat) : List SC := [.slice a y.room.length d, .slice b y.buses.length e, .int .i64 y.broken]
abbrev K35c2 (x13 : Places × Bool) : List SC := [.int .i64 x13.1.a0, .int .i64 x13.1.a1, .int .i64 x13.1.a2, .int .i64 x13.1.a3, .int .i64 x13.1.a4, .int .i64 x13.1.a5, .int .i64 x13.1.a6, .int .i64 x13.1.a7]
set_option maxRecDepth 100000 in
set_option maxHeartbeats 4000000 in
theorem lane_ProveOrder_ok (n : Nat) {h : Heap} {w : World} (hh : Has h w) (y : Yard) {cs_y : List Value} (hx_y : rep h y cs_y) (order : List Int) {a_order : Option Addr} {c_order : Nat} (hr_order : RepS h a_order c_order order) {r : Bool} (H : lane_ProveOrder n y order = some r) :
  Calls Try.prog 35 #[.agg cs_y.toArray, .slice a_order order.length c_order] w (Ret (fun h v => v = .bool r) h w) := by
 obtain ⟨_, _, rfl, ⟨a, d, rfl, j⟩, ⟨_, _, rfl, ⟨b, e, rfl, k⟩, rfl⟩⟩ := hx_y
 refine enter 17 [.agg (K35c1 a y d b e), .c (.slice a_order order.length c_order)] Try.func35 rfl rfl rfl rfl fun t hk => ?_
 have hm := Mem.begin h w hh
 unfold lane_ProveOrder at H
 refine wp_seq (wp_region_from (wl fun K hK => ?_))
 refine wb (.agg (K35c1 a y d b e)) hk hm fun g aq bh (aa : Kn 17 [(g, 0)] [(tP 2 0 0), (tA 0 (K35c1 a y d b e)), (tS 1 a_order order.length c_order)] aq) i => hK _ _ ?_
 refine Rk 1 1 [(tP 2 0 0), (tS 1 a_order order.length c_order)] aa i fun av ab => ?_
 refine wf (wp_seq (wp_seq (wp_region_from (Rk 0 1 [(tA 7 (K35c1 a y d b e)), (tP 2 0 0), (tS 1 a_order order.length c_order)] ab i fun aw ac => ?_))))
 obtain ⟨x8, ex8, H⟩ := bnd H
 refine wl fun K hK => ?_
 refine wc [.agg (K35c1 a y d b e)] ac i (lane_Yard_check_ok n i.has y ((rep_pair (rep_slice j) (rep_pair (rep_slice k) rep_int)) : rep h y _) ex8) fun bb z bd u o f => ?_
 replace j := j.mono o
 replace k := k.mono o
 replace hr_order := hr_order.mono o
 obtain rfl := u
 refine ⟨.one (.c (.int .i64 x8)), rfl, fun an (ad : Kn 17 [(g, 0)] [(tI 8 x8), (tA 7 (K35c1 a y d b e)), (tP 2 0 0), (tS 1 a_order order.length c_order)] an) => hK _ _ ?_⟩
 refine Rk 2 1 [(tB 9 (x8 != 0)), (tP 2 0 0), (tS 1 a_order order.length c_order)] ad f fun ax m => ?_
 refine wf (wC ((x8 != 0)) m (fun l => ?_) (fun l => ?_))
 ·
  rw [l, cond_true] at H
  refine wp_seq (wp_region_from (Rk 0 1 [(tB 4 false)] m f fun ay ae => ?_))
  refine wf (wp_ret ?_)
  obtain rfl := Option.some.inj H
  exact rt (.one (.c (.bool false))) ae f rfl
 ·
  rw [l, cond_false] at H
  refine wp_skip (wp_seq (wp_region_from (Rk 0 2 [(tS 12 a_order order.length c_order), (tA 11 (K35c1 a y d b e))] m f fun az af => ?_)))
  obtain ⟨x13, ex13, H⟩ := bnd H
  refine wl fun K hK => ?_
  refine wc [.agg (K35c1 a y d b e), .c (.slice a_order order.length c_order)] af f (lane_Yard_possible_ok n f.has y ((rep_pair (rep_slice j) (rep_pair (rep_slice k) rep_int)) : rep z y _) order hr_order ex13) fun bc ar be x au q => ?_
  obtain ⟨_, _, rfl, ⟨_, rfl, ⟨_, _, rfl, rfl, ⟨_, _, rfl, rfl, ⟨_, _, rfl, rfl, ⟨_, _, rfl, rfl, ⟨_, _, rfl, rfl, ⟨_, _, rfl, rfl, ⟨_, _, rfl, rfl, rfl⟩⟩⟩⟩⟩⟩⟩⟩, rfl⟩ := x
  refine ⟨.tup [.agg (K35c2 x13), .c (.bool x13.2)], rfl, fun ao (ag : Kn 17 [(g, 0)] [(13, .tup [.agg (K35c2 x13), .c (.bool x13.2)]), (tS 12 a_order order.length c_order), (tA 11 (K35c1 a y d b e))] ao) => hK _ _ ?_⟩
  refine Rk 3 3 [(tB 15 x13.2), (tA 14 (K35c2 x13))] ag q fun a8 ah => ?_
  refine wl fun K hK => ?_
  refine wa [.int .i64 0, .int .i64 0, .int .i64 0, .int .i64 0, .int .i64 0, .int .i64 0, .int .i64 0, .int .i64 0] ah q fun s ap bf (ai : Kn 17 [(g, 0), (s, 0)] [(tP 5 1 0), (tB 15 x13.2), (tA 14 (K35c2 x13))] ap) am => hK _ _ ?_
  refine wl fun K hK => ?_
  refine wst 1 0 (.agg (K35c2 x13)) (K35c2 x13) ai am fun bg aj p => hK _ _ ?_
  refine Rk 8 1 [(tB 6 x13.2)] aj p fun a9 ak => ?_
  refine wf (wp_seq (wp_region_from (Rk 0 2 [(tB 4 x13.2)] ak p fun ba al => ?_)))
  refine wf (wp_ret ?_)
  obtain rfl := Option.some.inj H
  exact rt (.one (.c (.bool x13.2))) al p rfl
end Go.Proofs.Ythcbemnflgjadaa
