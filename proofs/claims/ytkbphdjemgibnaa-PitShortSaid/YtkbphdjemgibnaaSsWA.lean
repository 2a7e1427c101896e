/- Each call computes its plain function. -/
import Derived.Test.YtkbphdjemgibnaaProg
import Derived.Test.YtkbphdjemgibnaaSsP0
set_option linter.all false
namespace Go.Proofs.Ytkbphdjemgibnaa
open Go Go.RowKit
open Rep (rep)
open KRep (kv)
open VRep (rv)
set_option maxRecDepth 100000 in
set_option maxHeartbeats 4000000 in
theorem ref_In_ok (n : Nat) {h : Heap} {w : World} (hh : Has h w) (n_ : Int) (low : Int) (high : Int) {r : Bool} (H : ref_In n n_ low high = some r) :
  Calls Try.prog 26 #[.int .i64 n_, .int .i64 low, .int .i64 high] w (Ret (fun h v => v = .bool r) h w) := by
 refine enter 15 [.c (.int .i64 n_), .c (.int .i64 low), .c (.int .i64 high)] Try.func26 rfl rfl rfl rfl fun t hk => ?_
 have hm := Mem.begin h w hh
 unfold ref_In at H
 refine wp_seq (wp_region_from (Rk 0 1 [(tI 0 n_), (tI 1 low), (tI 2 high)] hk hm fun k f => ?_))
 refine wf (wp_seq (wp_region_from (Rk 0 4 [(tB 10 (decide (n_ ≥ low))), (tI 0 n_), (tI 2 high)] f hm fun d b => ?_)))
 rcases Bool.eq_false_or_eq_true (decide (n_ ≥ low)) with a | a
 ·
  rw [a, cond_true] at H
  have g : Kn 15 [] [(tB 10 true), (tI 0 n_), (tI 2 high)] d := (b.setB 10 true (by rfl) a).kp
  refine Rk 4 5 [(tB 6 (decide (n_ ≤ high)))] g hm fun m i => ?_
  refine wf (wp_ret ?_)
  obtain rfl := Option.some.inj H
  exact rt (.one (.c (.bool (decide (n_ ≤ high))))) i hm rfl
 ·
  rw [a, cond_false] at H
  have j : Kn 15 [] [(tB 10 false), (tI 0 n_), (tI 2 high)] d := (b.setB 10 false (by rfl) a).kp
  refine Rk 4 5 [(tB 6 false)] j hm fun l e => ?_
  refine wf (wp_ret ?_)
  obtain rfl := Option.some.inj H
  exact rt (.one (.c (.bool false))) e hm rfl
abbrev K23m1 (a_a : Option Addr) (a : List Int) (c_a : Nat) (a_b : Option Addr) (b : List Int) (c_b : Nat) : TM := [(tS 0 a_a a.length c_a), (tS 1 a_b b.length c_b)]
set_option maxRecDepth 100000 in
set_option maxHeartbeats 4000000 in
theorem law_ints_ok (n : Nat) {h : Heap} {w : World} (hh : Has h w) (a : List Int) {a_a : Option Addr} {c_a : Nat} (hr_a : RepS h a_a c_a a) (b : List Int) {a_b : Option Addr} {c_b : Nat} (hr_b : RepS h a_b c_b b) {r : Bool} (H : law_ints n a b = some r) :
  Calls Try.prog 23 #[.slice a_a a.length c_a, .slice a_b b.length c_b] w (Ret (fun h v => v = .bool r) h w) := by
 refine enter 26 [.c (.slice a_a a.length c_a), .c (.slice a_b b.length c_b)] Try.func23 rfl rfl rfl rfl fun t hk => ?_
 have hm := Mem.begin h w hh
 unfold law_ints at H
 refine wp_seq (wp_region_from (Rk 0 1 (K23m1 a_a a c_a a_b b c_b) hk hm fun bf an => ?_))
 refine wf (wp_seq (wp_seq (wp_region_from (Rk 0 5 ((tB 10 (((a.length : Nat) : Int) != ((b.length : Nat) : Int))) :: (K23m1 a_a a c_a a_b b c_b)) an hm fun bi u => ?_))))
 refine wf (wC ((((a.length : Nat) : Int) != ((b.length : Nat) : Int))) u (fun p => ?_) (fun p => ?_))
 ·
  rw [p, cond_true] at H
  refine wp_seq (wp_region_from (Rk 0 1 [(tB 4 false)] u hm fun bm az => ?_))
  refine wf (wp_ret ?_)
  obtain rfl := Option.some.inj H
  exact rt (.one (.c (.bool false))) az hm rfl
 ·
  rw [p, cond_false] at H
  refine wp_skip (wp_seq (wp_seq (wp_region_from (Rk 0 1 ((tI 5 0) :: (K23m1 a_a a c_a a_b b c_b)) u hm fun bp a0 => ?_))))
  refine wf ?_
  obtain ⟨af, ad, H⟩ := bnd H
  refine wp_mid' (fun a' w' => ∃ (ah : Unit) (aa : Array Value) (m : Heap), a' = ⟨aa, []⟩ ∧ Kn 26 [] [] aa ∧ Mem ⟨w, h, noX⟩ m [] [] [] w' ∧ Heap.le h m ∧ af = .go ah) ?_ ?_
  ·
   refine wp_block ?_
   refine wp_loop_n (fun a9 a' w' => ∃ (x_v10 : Int) (ab : Array Value) (f : Heap), a' = ⟨ab, []⟩ ∧ Kn 26 [] ((tI 5 x_v10) :: (K23m1 a_a a c_a a_b b c_b)) ab ∧ Mem ⟨w, h, noX⟩ f [] [] [] w' ∧ Heap.le h f ∧ law_ints_l1 a9 a b x_v10 = some af) n ?_ ?_
   ·
    exact Exists.intro 0 ⟨_, _, rfl, a0.kp, hm, (Heap.le_refl _), ad⟩
   ·
    rintro z _ ai ⟨x_v10, ab, f, rfl, ao, e, k, d⟩
    clear ad
    obtain _ | z := z
    ·
     rw [law_ints_l1] at d; cases d
    rw [law_ints_l1] at d
    replace hr_a := hr_a.mono k
    replace hr_b := hr_b.mono k
    refine wp_seq (wp_seq (wp_region_from (Rk 0 4 ((tB 14 (decide (x_v10 < ((a.length : Nat) : Int)))) :: (tI 5 x_v10) :: (K23m1 a_a a c_a a_b b c_b)) ao e fun bg s => ?_)))
    refine wf (wC (decide (x_v10 < ((a.length : Nat) : Int))) s (fun o => ?_) (fun o => ?_))
    ·
     rw [o, cond_true] at d
     refine wp_skip (wp_seq (wp_block (wp_seq (wp_region_G (by kernel_rfl) ?_))))
     replace e := e.drew
     refine wpG_of_D [] [] [] ?_
     refine Dr [0, 1] [1, 0] ((tI 18 x_v10) :: (tS 17 a_a a.length c_a) :: (tI 5 x_v10) :: (K23m1 a_a a c_a a_b b c_b)) s e fun bh ap => ?_
     obtain ⟨x19, ex19, d⟩ := bnd d
     obtain ⟨a1, a3, a7⟩ := idx_some ex19
     obtain ⟨i, l, bc, aj, a5, al⟩ := hr_a.get (by decide) a7
     obtain rfl := a5
     have y : Mem ⟨w, h, noX⟩ f [(i, l + (x_v10 : Int).toNat * 1)] [⟨[.int .i64 x19], none⟩] [] (World.drew ai) := e.addPlc (cs := [.int .i64 x19]) (fun j c hj => al j _ (map_get hj)) rfl (by kernel_rfl) (by kernel_rfl)
     refine D_index 2 (x_v10) [.int .i64 x19] (fun _ _ _ _ _ h => h) rfl rfl (rfl) rfl (by decide) (by kernel_rfl) (by kernel_rfl) ap e.plOk (by rfl) (by rfl) (by rfl) aj (by rfl) a1 a3 (by kernel_rfl) fun ba (aq : Kn 26 [(i, l + (x_v10 : Int).toNat * 1)] ((tP 19 0 0) :: (tI 18 x_v10) :: (tS 17 a_a a.length c_a) :: (tI 5 x_v10) :: (K23m1 a_a a c_a a_b b c_b)) ba) => ?_
     refine Dr [3, 4, 5] (dn 5) ((tI 22 x_v10) :: (tS 21 a_b b.length c_b) :: (tI 20 x19) :: (tI 5 x_v10) :: (K23m1 a_a a c_a a_b b c_b)) aq y fun bj ar => ?_
     obtain ⟨x23, ex23, d⟩ := bnd d
     obtain ⟨a2, a4, a8⟩ := idx_some ex23
     obtain ⟨ac, ag, bd, ak, a6, am⟩ := hr_b.get (by decide) a8
     obtain rfl := a6
     have g : Mem ⟨w, h, noX⟩ f [(i, l + (x_v10 : Int).toNat * 1), (ac, ag + (x_v10 : Int).toNat * 1)] [⟨[.int .i64 x19], none⟩, ⟨[.int .i64 x23], none⟩] [] (World.drew ai) := y.addPlc (cs := [.int .i64 x23]) (fun j c hj => am j _ (map_get hj)) rfl (by kernel_rfl) (by kernel_rfl)
     refine D_index 6 (x_v10) [.int .i64 x23] (fun _ _ _ _ _ h => h) rfl rfl (rfl) rfl (by decide) (by kernel_rfl) (by kernel_rfl) ar y.plOk (by rfl) (by rfl) (by rfl) ak (by rfl) a2 a4 (by kernel_rfl) fun bb (au : Kn 26 [(i, l + (x_v10 : Int).toNat * 1), (ac, ag + (x_v10 : Int).toNat * 1)] ((tP 23 1 0) :: (tI 22 x_v10) :: (tS 21 a_b b.length c_b) :: (tI 20 x19) :: (tI 5 x_v10) :: (K23m1 a_a a c_a a_b b c_b)) bb) => ?_
     refine Dr [7, 8] (dn 8) ((tB 25 (x19 != x23)) :: (tI 5 x_v10) :: (K23m1 a_a a c_a a_b b c_b)) au g fun bk x => ?_
     refine wpD_end (by kernel_rfl) (wC ((x19 != x23)) x (fun q => ?_) (fun q => ?_))
     ·
      rw [q, cond_true] at d
      refine wp_seq (wp_region_from (Rk 0 1 [(tB 4 false)] x g fun bl av => ?_))
      refine wf (wp_ret ?_)
      obtain rfl := Option.some.inj d
      obtain rfl := Option.some.inj H
      exact rt (.one (.c (.bool false))) av g rfl
     ·
      rw [q, cond_false] at d
      refine wp_skip (wp_region_from (Rk 0 3 ((tI 5 (IntKind.i64.wrap (x_v10 + 1))) :: (K23m1 a_a a c_a a_b b c_b)) x g fun bn aw => ?_))
      refine wf ?_
      exact Exists.intro z ⟨Nat.lt_succ_self _, Exists.intro (IntKind.i64.wrap (x_v10 + 1)) ⟨_, _, rfl, ((aw.keep [5, 0, 1] (by rfl)).cut 0 (by kernel_rfl)), (g.cutPl 0 (by kernel_rfl)), k, d⟩⟩
    ·
     rw [o, cond_false] at d
     refine wp_exit ?_
     obtain rfl := Option.some.inj d
     exact Exists.intro () ⟨_, _, rfl, s.kp, e, k, rfl⟩
  ·
   rintro _ bq ⟨ah, aa, m, rfl, ax, ae, be, rfl⟩
   rw [Ex.bind_go] at H
   refine wp_seq (wp_region_from (Rk 0 1 [(tB 4 true)] ax ae fun bo ay => ?_))
   refine wf (wp_ret ?_)
   obtain rfl := Option.some.inj H
   exact rt (.one (.c (.bool true))) ay ae rfl
end Go.Proofs.Ytkbphdjemgibnaa
