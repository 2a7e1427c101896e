/- Each call computes its plain function. -/
import Derived.Test.YtkbphdjemgibnaaProg
import Derived.Test.YtkbphdjemgibnaaSsP0
import Derived.Test.YtkbphdjemgibnaaSsWP
set_option linter.all false
namespace Go.Proofs.Ytkbphdjemgibnaa
open Go Go.RowKit
open Rep (rep)
open KRep (kv)
open VRep (rv)
set_option maxRecDepth 100000 in
set_option maxHeartbeats 4000000 in
theorem pit_Range_upto_ok (n : Nat) {h : Heap} {w : World} (hh : Has h w) (r_ : Rg) {cs_r_ : List Value} (hx_r_ : rep h r_ cs_r_) (most : Int) {r : Bool} (H : pit_Range_upto n r_ most = some r) :
  Calls Try.prog 88 #[.agg cs_r_.toArray, .int .i64 most] w (Ret (fun h v => v = .bool r) h w) := by
 obtain ⟨_, _, rfl, rfl, rfl⟩ := hx_r_
 refine enter 21 [.agg [.int .i64 r_.lo, .int .i64 r_.hi], .c (.int .i64 most)] Try.func88 rfl rfl rfl rfl fun t hk => ?_
 have hm := Mem.begin h w hh
 unfold pit_Range_upto at H
 refine wp_seq (wp_region_from (wl fun K hK => ?_))
 refine wb (.agg [.int .i64 r_.lo, .int .i64 r_.hi]) hk hm fun b y z (u : Kn 21 [(b, 0)] [(tP 2 0 0), (tA 0 [.int .i64 r_.lo, .int .i64 r_.hi]), (tI 1 most)] y) (a : Mem ⟨w, h, noX⟩ h [(b, 0)] [⟨[.int .i64 r_.lo, .int .i64 r_.hi], some 51⟩] [] z) => hK _ _ ?_
 refine Rk 1 1 [(tP 2 0 0), (tI 1 most)] u a fun ad x => ?_
 refine wf (wp_seq (wp_region_from (Rk 0 4 [(tB 8 (decide (0 ≤ r_.lo))), (tP 2 0 0), (tI 1 most)] x a fun j g => ?_)))
 rcases Bool.eq_false_or_eq_true (decide (0 ≤ r_.lo)) with d | d
 ·
  rw [d, cond_true] at H
  have k : Kn 21 [(b, 0)] [(tB 8 true), (tP 2 0 0), (tI 1 most)] j := (g.setB 8 true (by rfl) d).kp
  refine Rk 4 7 [(tB 15 (decide (r_.lo ≤ r_.hi))), (tP 2 0 0), (tI 1 most)] k a fun i f => ?_
  rcases Bool.eq_false_or_eq_true (decide (r_.lo ≤ r_.hi)) with e | e
  ·
   rw [e, cond_true] at H
   have l : Kn 21 [(b, 0)] [(tB 15 true), (tP 2 0 0), (tI 1 most)] i := (f.setB 15 true (by rfl) e).kp
   refine Rk 11 6 [(tB 4 (decide (r_.hi ≤ most)))] l a fun aa m => ?_
   refine wf (wp_ret ?_)
   obtain rfl := Option.some.inj H
   exact rt (.one (.c (.bool (decide (r_.hi ≤ most))))) m a rfl
  ·
   rw [e, cond_false] at H
   have o : Kn 21 [(b, 0)] [(tB 15 false), (tP 2 0 0), (tI 1 most)] i := (f.setB 15 false (by rfl) e).kp
   refine Rk 11 6 [(tB 4 false)] o a fun ab p => ?_
   refine wf (wp_ret ?_)
   obtain rfl := Option.some.inj H
   exact rt (.one (.c (.bool false))) p a rfl
 ·
  rw [d, cond_false] at H
  have q : Kn 21 [(b, 0)] [(tB 8 false), (tP 2 0 0), (tI 1 most)] j := (g.setB 8 false (by rfl) d).kp
  refine Rk 4 13 [(tB 4 false)] q a fun ac s => ?_
  refine wf (wp_ret ?_)
  obtain rfl := Option.some.inj H
  exact rt (.one (.c (.bool false))) s a rfl
abbrev K64c1 (w_ : Wear) : List SC := [.int .i64 w_.miles.lo, .int .i64 w_.miles.hi, .int .i64 w_.daily.lo, .int .i64 w_.daily.hi, .int .i64 w_.age, .int .i64 w_.far, .int .i64 w_.long]
set_option maxRecDepth 100000 in
set_option maxHeartbeats 4000000 in
theorem pit_Wear_valid_ok (n : Nat) {h : Heap} {w : World} (hh : Has h w) (w_ : Wear) {cs_w_ : List Value} (hx_w_ : rep h w_ cs_w_) {r : Bool} (H : pit_Wear_valid n w_ = some r) :
  Calls Try.prog 64 #[.agg cs_w_.toArray] w (Ret (fun h v => v = .bool r) h w) := by
 obtain ⟨_, _, rfl, ⟨_, _, rfl, rfl, rfl⟩, ⟨_, _, rfl, ⟨_, _, rfl, rfl, rfl⟩, ⟨_, _, rfl, rfl, ⟨_, _, rfl, rfl, rfl⟩⟩⟩⟩ := hx_w_
 refine enter 26 [.agg (K64c1 w_)] Try.func64 rfl rfl rfl rfl fun t hk => ?_
 have hm := Mem.begin h w hh
 unfold pit_Wear_valid at H
 refine wp_seq (wp_region_from (wl fun K hK => ?_))
 refine wb (.agg (K64c1 w_)) hk hm fun a a8 bd (ao : Kn 26 [(a, 0)] [(tP 1 0 0), (tA 0 (K64c1 w_))] a8) (l : Mem ⟨w, h, noX⟩ h [(a, 0)] [⟨(K64c1 w_), some 53⟩] [] bd) => hK _ _ ?_
 refine Rk 1 1 [(tP 1 0 0)] ao l fun bq av => ?_
 refine wf (wp_seq (wp_region_from (Rk 0 2 [(tA 4 [.int .i64 w_.miles.lo, .int .i64 w_.miles.hi]), (tP 1 0 0)] av l fun bu a6 => ?_)))
 obtain ⟨x5, ex5, H⟩ := bnd H
 refine wl fun K hK => ?_
 refine wc [.agg [.int .i64 w_.miles.lo, .int .i64 w_.miles.hi], .c (.int .i64 100000)] a6 l (pit_Range_upto_ok n l.has w_.miles ((rep_pair rep_int rep_int) : rep h w_.miles _) 100000 ex5) fun bz aj b4 ae bi b => ?_
 obtain rfl := ae
 refine ⟨.one (.c (.bool x5)), rfl, fun a7 (ak : Kn 26 [(a, 0)] [(tB 5 x5), (tA 4 [.int .i64 w_.miles.lo, .int .i64 w_.miles.hi]), (tP 1 0 0)] a7) => hK _ _ ?_⟩
 refine Rk 3 1 [(tB 6 x5), (tP 1 0 0)] ak b fun aa m => ?_
 rcases Bool.eq_false_or_eq_true (x5) with g | g
 ·
  rw [g, cond_true] at H
  have al : Kn 26 [(a, 0)] [(tB 6 true), (tP 1 0 0)] aa := (m.setB 6 true (by rfl) g).kp
  refine Rk 4 2 [(tA 8 [.int .i64 w_.daily.lo, .int .i64 w_.daily.hi]), (tB 6 true), (tP 1 0 0)] al b fun bn o => ?_
  obtain ⟨x9, ex9, H⟩ := bnd H
  refine wpFrom_loud _ rfl (wantedS_sound o (by kernel_rfl)) fun K hK => ?_
  refine wc [.agg [.int .i64 w_.daily.lo, .int .i64 w_.daily.hi], .c (.int .i64 1000)] o b (pit_Range_upto_ok n b.has w_.daily ((rep_pair rep_int rep_int) : rep aj w_.daily _) 1000 ex9) fun b0 be b5 af bj d => ?_
  obtain rfl := af
  refine ⟨.one (.c (.bool x9)), rfl, fun a9 (am : Kn 26 [(a, 0)] [(tB 9 x9), (tA 8 [.int .i64 w_.daily.lo, .int .i64 w_.daily.hi]), (tB 6 true), (tP 1 0 0)] a9) => hK _ _ ?_⟩
  refine Rk 7 2 [(tB 11 x9), (tP 1 0 0)] am d fun ab p => ?_
  rcases Bool.eq_false_or_eq_true (x9) with i | i
  ·
   rw [i, cond_true] at H
   have an : Kn 26 [(a, 0)] [(tB 11 true), (tP 1 0 0)] ab := (p.setB 11 true (by rfl) i).kp
   refine Rk 9 2 [(tI 13 w_.age), (tB 11 true), (tP 1 0 0)] an d fun bo q => ?_
   obtain ⟨x14, ex14, H⟩ := bnd H
   refine wpFrom_loud _ rfl (wantedS_sound q (by kernel_rfl)) fun K hK => ?_
   refine wc [.c (.int .i64 w_.age), .c (.int .i64 0), .c (.int .i64 1000)] q d (pit_within_ok n d.has w_.age 0 1000 ex14) fun b1 bf b6 ag bk e => ?_
   obtain rfl := ag
   refine ⟨.one (.c (.bool x14)), rfl, fun ba (ap : Kn 26 [(a, 0)] [(tB 14 x14), (tI 13 w_.age), (tB 11 true), (tP 1 0 0)] ba) => hK _ _ ?_⟩
   refine Rk 12 2 [(tB 16 x14), (tP 1 0 0)] ap e fun ac s => ?_
   rcases Bool.eq_false_or_eq_true (x14) with j | j
   ·
    rw [j, cond_true] at H
    have aq : Kn 26 [(a, 0)] [(tB 16 true), (tP 1 0 0)] ac := (s.setB 16 true (by rfl) j).kp
    refine Rk 14 2 [(tI 18 w_.far), (tB 16 true), (tP 1 0 0)] aq e fun bp u => ?_
    obtain ⟨x19, ex19, H⟩ := bnd H
    refine wpFrom_loud _ rfl (wantedS_sound u (by kernel_rfl)) fun K hK => ?_
    refine wc [.c (.int .i64 w_.far), .c (.int .i64 1), .c (.int .i64 100000)] u e (pit_within_ok n e.has w_.far 1 100000 ex19) fun b2 bg b7 ah bl f => ?_
    obtain rfl := ah
    refine ⟨.one (.c (.bool x19)), rfl, fun bb (ar : Kn 26 [(a, 0)] [(tB 19 x19), (tI 18 w_.far), (tB 16 true), (tP 1 0 0)] bb) => hK _ _ ?_⟩
    refine Rk 17 2 [(tB 21 x19), (tP 1 0 0)] ar f fun ad x => ?_
    rcases Bool.eq_false_or_eq_true (x19) with k | k
    ·
     rw [k, cond_true] at H
     have au : Kn 26 [(a, 0)] [(tB 21 true), (tP 1 0 0)] ad := (x.setB 21 true (by rfl) k).kp
     refine Rk 19 2 [(tI 23 w_.long), (tB 21 true)] au f fun br y => ?_
     obtain ⟨x24, ex24, H⟩ := bnd H
     refine wpFrom_loud _ rfl (wantedS_sound y (by kernel_rfl)) fun K hK => ?_
     refine wc [.c (.int .i64 w_.long), .c (.int .i64 1), .c (.int .i64 1000)] y f (pit_within_ok n f.has w_.long 1 1000 ex24) fun b3 bh b8 ai bm z => ?_
     obtain rfl := ai
     refine ⟨.one (.c (.bool x24)), rfl, fun bc (aw : Kn 26 [(a, 0)] [(tB 24 x24), (tI 23 w_.long), (tB 21 true)] bc) => hK _ _ ?_⟩
     refine Rk 22 2 [(tB 2 x24)] aw z fun bs ax => ?_
     refine wf (wp_ret ?_)
     obtain rfl := Option.some.inj H
     exact rt (.one (.c (.bool x24))) ax z rfl
    ·
     rw [k, cond_false] at H
     have ay : Kn 26 [(a, 0)] [(tB 21 false), (tP 1 0 0)] ad := (x.setB 21 false (by rfl) k).kp
     refine Rk 19 5 [(tB 2 false)] ay f fun bt az => ?_
     refine wf (wp_ret ?_)
     obtain rfl := Option.some.inj H
     exact rt (.one (.c (.bool false))) az f rfl
   ·
    rw [j, cond_false] at H
    have a0 : Kn 26 [(a, 0)] [(tB 16 false), (tP 1 0 0)] ac := (s.setB 16 false (by rfl) j).kp
    refine Rk 14 10 [(tB 2 false)] a0 e fun bv a1 => ?_
    refine wf (wp_ret ?_)
    obtain rfl := Option.some.inj H
    exact rt (.one (.c (.bool false))) a1 e rfl
  ·
   rw [i, cond_false] at H
   have a2 : Kn 26 [(a, 0)] [(tB 11 false), (tP 1 0 0)] ab := (p.setB 11 false (by rfl) i).kp
   refine Rk 9 15 [(tB 2 false)] a2 d fun bw a3 => ?_
   refine wf (wp_ret ?_)
   obtain rfl := Option.some.inj H
   exact rt (.one (.c (.bool false))) a3 d rfl
 ·
  rw [g, cond_false] at H
  have a4 : Kn 26 [(a, 0)] [(tB 6 false), (tP 1 0 0)] aa := (m.setB 6 false (by rfl) g).kp
  refine Rk 4 20 [(tB 2 false)] a4 b fun bx a5 => ?_
  refine wf (wp_ret ?_)
  obtain rfl := Option.some.inj H
  exact rt (.one (.c (.bool false))) a5 b rfl
set_option maxRecDepth 100000 in
set_option maxHeartbeats 4000000 in
theorem slices_Max_int_int_ok (n : Nat) {h : Heap} {w : World} (hh : Has h w) (x : List Int) {a_x : Option Addr} {c_x : Nat} (hr_x : RepS h a_x c_x x) {r : Int} (H : slices_Max_int_int n x = some r) :
  Calls Try.prog 110 #[.slice a_x x.length c_x] w (Ret (fun h v => v = .int .i64 r) h w) := by
 refine enter 25 [.c (.slice a_x x.length c_x)] Try.func110 rfl rfl rfl rfl fun t hk => ?_
 have hm := Mem.begin h w hh
 unfold slices_Max_int_int at H
 refine wp_seq (wp_region_from (Rk 0 1 [(tS 0 a_x x.length c_x)] hk hm fun bb aj => ?_))
 refine wf (wp_seq (wp_seq (wp_region_from (Rk 0 3 [(tB 7 (decide (((x.length : Nat) : Int) < 1))), (tS 0 a_x x.length c_x)] aj hm fun be ab => ?_))))
 refine wf (wC (decide (((x.length : Nat) : Int) < 1)) ab (fun l => ?_) (fun l => ?_))
 ·
  rw [l, cond_true] at H
  cases H
 ·
  rw [l, cond_false] at H
  refine wp_skip (wp_seq (wp_region_from (Rk 0 1 [(tS 9 a_x x.length c_x), (tS 0 a_x x.length c_x)] ab hm fun bj av => ?_)))
  obtain ⟨x10, ex10, H⟩ := bnd H
  obtain ⟨aw, ay, a2⟩ := idx_some ex10
  obtain ⟨b, d, a8, ae, a0, ag⟩ := hr_x.get (by decide) a2
  obtain rfl := a0
  have p : Mem ⟨w, h, noX⟩ h [(b, d + (0 : Int).toNat * 1)] [⟨[.int .i64 x10], none⟩] [] w := hm.addPlc (cs := [.int .i64 x10]) (fun j c hj => ag j _ (map_get hj)) rfl (by kernel_rfl) (by kernel_rfl)
  refine R_index 1 (0) rfl rfl (rfl) rfl (by decide) av (by rfl) (by rfl) (by rfl) ae (by rfl) aw ay (by kernel_rfl) fun a5 (ai : Kn 25 [(b, d + (0 : Int).toNat * 1)] [(tP 10 0 0), (tS 9 a_x x.length c_x), (tS 0 a_x x.length c_x)] a5) => ?_
  refine Rk 2 2 [(tI 3 x10), (tS 0 a_x x.length c_x)] ai p fun bc ak => ?_
  refine wf (wp_seq (wp_seq (wp_region_from (Rk 0 1 [(tI 4 1), (tI 3 x10), (tS 0 a_x x.length c_x)] ak p fun bd al => ?_))))
  refine wf ?_
  obtain ⟨g, aa, H⟩ := bnd H
  refine wp_mid' (fun a' w' => ∃ (u : Array Value) (i : Heap), a' = ⟨u, []⟩ ∧ Kn 25 [(b, d + (0 : Int).toNat * 1)] [(tI 3 g)] u ∧ Mem ⟨w, h, noX⟩ i [(b, d + (0 : Int).toNat * 1)] [⟨[.int .i64 x10], none⟩] [] w' ∧ Heap.le h i) ?_ ?_
  ·
   refine wp_block ?_
   refine wp_loop_n (fun a4 a' w' => ∃ (x_v10 : Int) (x_v11 : Int) (y : Array Value) (e : Heap), a' = ⟨y, []⟩ ∧ Kn 25 [(b, d + (0 : Int).toNat * 1)] [(tI 4 x_v10), (tI 3 x_v11), (tS 0 a_x x.length c_x)] y ∧ Mem ⟨w, h, noX⟩ e [(b, d + (0 : Int).toNat * 1)] [⟨[.int .i64 x10], none⟩] [] w' ∧ Heap.le h e ∧ slices_Max_int_int_l1 a4 x x_v10 x_v11 = some g) n ?_ ?_
   ·
    exact Exists.intro 1 ⟨x10, _, _, rfl, al.kp, p, (Heap.le_refl _), aa⟩
   ·
    rintro s _ a7 ⟨x_v10, x_v11, y, e, rfl, am, f, o, a⟩
    clear aa
    obtain _ | s := s
    ·
     rw [slices_Max_int_int_l1] at a; cases a
    rw [slices_Max_int_int_l1] at a
    replace hr_x := hr_x.mono o
    refine wp_seq (wp_seq (wp_region_from (Rk 0 4 [(tB 15 (decide (x_v10 < ((x.length : Nat) : Int)))), (tI 4 x_v10), (tI 3 x_v11), (tS 0 a_x x.length c_x)] am f fun bf m => ?_)))
    refine wf (wC (decide (x_v10 < ((x.length : Nat) : Int))) m (fun k => ?_) (fun k => ?_))
    ·
     rw [k, cond_true] at a
     refine wp_skip (wp_seq (wp_block (wp_region_from (Rk 0 3 [(tI 20 x_v10), (tS 19 a_x x.length c_x), (tI 18 x_v11), (tI 4 x_v10), (tS 0 a_x x.length c_x)] m f fun bg an => ?_))))
     obtain ⟨x21, ex21, a⟩ := bnd a
     obtain ⟨ax, az, a3⟩ := idx_some ex21
     obtain ⟨z, ad, a9, af, a1, ah⟩ := hr_x.get (by decide) a3
     obtain rfl := a1
     have q : Mem ⟨w, h, noX⟩ e [(b, d + (0 : Int).toNat * 1), (z, ad + (x_v10 : Int).toNat * 1)] [⟨[.int .i64 x10], none⟩, ⟨[.int .i64 x21], none⟩] [] a7 := f.addPlc (cs := [.int .i64 x21]) (fun j c hj => ah j _ (map_get hj)) rfl (by kernel_rfl) (by kernel_rfl)
     refine R_index 3 (x_v10) rfl rfl (rfl) rfl (by decide) an (by rfl) (by rfl) (by rfl) af (by rfl) ax az (by kernel_rfl) fun a6 (ao : Kn 25 [(b, d + (0 : Int).toNat * 1), (z, ad + (x_v10 : Int).toNat * 1)] [(tP 21 1 0), (tI 20 x_v10), (tS 19 a_x x.length c_x), (tI 18 x_v11), (tI 4 x_v10), (tS 0 a_x x.length c_x)] a6) => ?_
     refine Rk 4 3 [(tI 3 (if x21 > x_v11 then x21 else x_v11)), (tI 4 x_v10), (tS 0 a_x x.length c_x)] ao q fun bh ap => ?_
     refine wf (wp_region_from (Rk 0 3 [(tI 4 (IntKind.i64.wrap (x_v10 + 1))), (tI 3 (if x21 > x_v11 then x21 else x_v11)), (tS 0 a_x x.length c_x)] ap q fun bi aq => ?_))
     refine wf ?_
     exact Exists.intro s ⟨Nat.lt_succ_self _, Exists.intro (IntKind.i64.wrap (x_v10 + 1)) ⟨(if x21 > x_v11 then x21 else x_v11), _, _, rfl, ((aq.keep [4, 3, 0] (by rfl)).cut 1 (by kernel_rfl)), (q.cutPl 1 (by kernel_rfl)), o, a⟩⟩
    ·
     rw [k, cond_false] at a
     refine wp_exit ?_
     obtain rfl := Option.some.inj a
     exact Exists.intro _ ⟨_, rfl, m.kp, f, o⟩
  ·
   rintro _ bl ⟨u, i, rfl, ar, ac, ba⟩
   refine wp_seq (wp_region_from (Rk 0 2 [(tI 2 g)] ar ac fun bk au => ?_))
   refine wf (wp_ret ?_)
   obtain rfl := Option.some.inj H
   exact rt (.one (.c (.int .i64 g))) au ac rfl
set_option maxRecDepth 100000 in
set_option maxHeartbeats 4000000 in
theorem pit_later_ok (n : Nat) {h : Heap} {w : World} (hh : Has h w) (l : List Int) {a_l : Option Addr} {c_l : Nat} (hr_l : RepS h a_l c_l l) {r : Int} (H : pit_later n l = some r) :
  Calls Try.prog 89 #[.slice a_l l.length c_l] w (Ret (fun h v => v = .int .i64 r) h w) := by
 refine enter 5 [.c (.slice a_l l.length c_l)] Try.func89 rfl rfl rfl rfl fun t hk => ?_
 have hm := Mem.begin h w hh
 unfold pit_later at H
 refine wp_seq (wp_region_from (Rk 0 1 [(tS 0 a_l l.length c_l)] hk hm fun m f => ?_))
 refine wf (wp_seq (wp_region_from (Rk 0 1 [(tS 3 a_l l.length c_l)] f hm fun p g => ?_)))
 obtain ⟨x4, ex4, H⟩ := bnd H
 refine wl fun K hK => ?_
 refine wc [.c (.slice a_l l.length c_l)] g hm (slices_Max_int_int_ok n hm.has l hr_l ex4) fun q j s b k a => ?_
 obtain rfl := b
 refine ⟨.one (.c (.int .i64 x4)), rfl, fun i (d : Kn 5 [] [(tI 4 x4), (tS 3 a_l l.length c_l)] i) => hK _ _ ?_⟩
 refine Rk 2 1 [(tI 2 x4)] d a fun o e => ?_
 refine wf (wp_ret ?_)
 obtain rfl := Option.some.inj H
 exact rt (.one (.c (.int .i64 x4))) e a rfl
abbrev K65c1 (w_ : Wear) : List SC := [.int .i64 w_.miles.lo, .int .i64 w_.miles.hi, .int .i64 w_.daily.lo, .int .i64 w_.daily.hi, .int .i64 w_.age, .int .i64 w_.far, .int .i64 w_.long]
abbrev K65r2 (a : Option Addr) (w_ : Wear) : List Row := [⟨a, 2, 2, 3, 1, ([.int .i64 0, .int .i64 (IntKind.i64.wrap (w_.long - w_.age))] : List Value), (([.int .i64 0, .int .i64 (IntKind.i64.wrap (w_.long - w_.age))] : List Value) : List Value).length⟩]
abbrev K65m3 (miles daily : Int) : TM := [(tP 3 0 0), (tI 1 miles), (tI 2 daily)]
set_option maxRecDepth 100000 in
set_option maxHeartbeats 4000000 in
theorem pit_Wear_first_ok (n : Nat) {h : Heap} {w : World} (hh : Has h w) (w_ : Wear) {cs_w_ : List Value} (hx_w_ : rep h w_ cs_w_) (miles : Int) (daily : Int) {r : Int} (H : pit_Wear_first n w_ miles daily = some r) :
  Calls Try.prog 65 #[.agg cs_w_.toArray, .int .i64 miles, .int .i64 daily] w (Ret (fun h v => v = .int .i64 r) h w) := by
 obtain ⟨_, _, rfl, ⟨_, _, rfl, rfl, rfl⟩, ⟨_, _, rfl, ⟨_, _, rfl, rfl, rfl⟩, ⟨_, _, rfl, rfl, ⟨_, _, rfl, rfl, rfl⟩⟩⟩⟩ := hx_w_
 refine enter 31 [.agg (K65c1 w_), .c (.int .i64 miles), .c (.int .i64 daily)] Try.func65 rfl rfl rfl rfl fun t hk => ?_
 have hm := Mem.begin h w hh
 unfold pit_Wear_first at H
 refine wp_seq (wp_region_from (wl fun K hK => ?_))
 refine wb (.agg (K65c1 w_)) hk hm fun b a4 a6 (ap : Kn 31 [(b, 0)] [(tP 3 0 0), (tA 0 (K65c1 w_)), (tI 1 miles), (tI 2 daily)] a4) (s : Mem ⟨w, h, noX⟩ h [(b, 0)] [⟨(K65c1 w_), some 53⟩] [] a6) => hK _ _ ?_
 refine Rk 1 1 (K65m3 miles daily) ap s fun bf ay => ?_
 refine wf (wp_seq (wp_region_from (Rk 0 5 ((tI 13 (IntKind.i64.wrap (w_.long - w_.age))) :: (K65m3 miles daily)) ay s fun bh az => ?_)))
 refine wl fun K hK => ?_
 refine wS 3 1 [.int .i64 0, .int .i64 (IntKind.i64.wrap (w_.long - w_.age))] az s fun a a3 aj (al : Kn 31 [(b, 0)] ((tS 14 a 2 2) :: (tI 13 (IntKind.i64.wrap (w_.long - w_.age))) :: (K65m3 miles daily)) a3) (af : Mem ⟨w, h, noX⟩ h [(b, 0)] [⟨(K65c1 w_), some 53⟩] [⟨a, 2, 2, 3, 1, ([.int .i64 0, .int .i64 (IntKind.i64.wrap (w_.long - w_.age))] : List Value), 0⟩] aj) => ?_
 have f : Cells h ([0, IntKind.i64.wrap (w_.long - w_.age)] : List Int) ([.int .i64 0, .int .i64 (IntKind.i64.wrap (w_.long - w_.age))] : List Value) := ⟨_, _, rfl, (rep_int : rep h (0 : Int) _), ⟨_, _, rfl, (rep_int : rep h (IntKind.i64.wrap (w_.long - w_.age) : Int) _), rfl⟩⟩
 refine hK _ _ ?_
 obtain ⟨ab, a0, a1, g⟩ := af.settle (i := 0) rfl
 replace f := f.mono a0
 replace g : Mem ⟨w, h, noX⟩ ab [(b, 0)] [⟨(K65c1 w_), some 53⟩] (K65r2 a w_) aj := g
 have u : RepS ab a 2 ([0, IntKind.i64.wrap (w_.long - w_.age)] : List Int) := ⟨_, f, a1, af.rowCap (i := 0) rfl⟩
 obtain ⟨x15, ex15, H⟩ := bnd H
 refine wl fun K hK => ?_
 refine wc [.c (.slice a 2 2)] al g (pit_later_ok n g.has ([0, IntKind.i64.wrap (w_.long - w_.age)] : List Int) u ex15) fun bi ac bj ak ad q => ?_
 replace u := u.mono ad
 replace f := f.mono ad
 obtain rfl := ak
 refine ⟨.one (.c (.int .i64 x15)), rfl, fun a5 (am : Kn 31 [(b, 0)] ((tI 15 x15) :: (tS 14 a 2 2) :: (tI 13 (IntKind.i64.wrap (w_.long - w_.age))) :: (K65m3 miles daily)) a5) => hK _ _ ?_⟩
 refine Rk 7 1 ((tI 7 x15) :: (K65m3 miles daily)) am q fun a8 an => ?_
 refine wf (wp_seq (wp_seq (wp_region_from (Rk 0 2 ((tI 17 0) :: (tI 16 x15) :: (tI 7 x15) :: (K65m3 miles daily)) an q fun a9 ao => ?_))))
 refine wf ?_
 obtain ⟨ah, aa, H⟩ := bnd H
 refine wp_mid' (fun a' w' => ∃ (ai : Unit) (y : Array Value) (j : Heap), a' = ⟨y, []⟩ ∧ Kn 31 [(b, 0)] [(tI 7 x15)] y ∧ Mem ⟨w, h, noX⟩ j [(b, 0)] [⟨(K65c1 w_), some 53⟩] (K65r2 a w_) w' ∧ Heap.le ac j ∧ ah = .go ai) ?_ ?_
 ·
  refine wp_block ?_
  refine wp_loop_n (fun a2 a' w' => ∃ (x_v10 : Int) (z : Array Value) (k : Heap), a' = ⟨z, []⟩ ∧ Kn 31 [(b, 0)] ((tI 17 x_v10) :: (tI 16 x15) :: (tI 7 x15) :: (K65m3 miles daily)) z ∧ Mem ⟨w, h, noX⟩ k [(b, 0)] [⟨(K65c1 w_), some 53⟩] (K65r2 a w_) w' ∧ Heap.le ac k ∧ pit_Wear_first_l1 a2 w_ miles daily x15 x_v10 = some ah) n ?_ ?_
  ·
   exact Exists.intro 0 ⟨_, _, rfl, ao.kp, q, (Heap.le_refl _), aa⟩
  ·
   rintro x _ bk ⟨x_v10, z, k, rfl, aq, e, ae, d⟩
   clear aa
   obtain _ | x := x
   ·
    rw [pit_Wear_first_l1] at d; cases d
   rw [pit_Wear_first_l1] at d
   refine wp_seq (wp_region_from (Rk 0 1 ((tB 18 (decide (x_v10 < x15))) :: (tI 17 x_v10) :: (tI 16 x15) :: (tI 7 x15) :: (K65m3 miles daily)) aq e fun ba o => ?_))
   refine wf (wp_seq (wC (decide (x_v10 < x15)) o (fun l => ?_) (fun l => ?_)))
   ·
    rw [l, cond_true] at d
    refine wp_skip (wp_seq (wp_block (wp_seq (wp_region_from (Rk 0 2 ((tI 8 x_v10) :: (tI 17 x_v10) :: (tI 16 x15) :: (tI 7 x15) :: (K65m3 miles daily)) o e fun bb ar => ?_)))))
    refine wf (wp_seq (wp_region_from (Rk 0 8 ((tB 27 (decide ((IntKind.i64.wrap (miles + (IntKind.i64.wrap (x_v10 * daily)))) ≥ w_.far))) :: (tI 8 x_v10) :: (tI 17 x_v10) :: (tI 16 x15) :: (tI 7 x15) :: (K65m3 miles daily)) ar e fun bc p => ?_)))
    refine wf (wC (decide ((IntKind.i64.wrap (miles + (IntKind.i64.wrap (x_v10 * daily)))) ≥ w_.far)) p (fun m => ?_) (fun m => ?_))
    ·
     rw [m, cond_true] at d
     refine wp_seq (wp_region_from (Rk 0 2 [(tI 6 x_v10)] p e fun bd au => ?_))
     refine wf (wp_ret ?_)
     obtain rfl := Option.some.inj d
     obtain rfl := Option.some.inj H
     exact rt (.one (.c (.int .i64 x_v10))) au e rfl
    ·
     rw [m, cond_false] at d
     refine wp_skip (wp_region_from (Rk 0 2 ((tI 17 (IntKind.i64.wrap (x_v10 + 1))) :: (tI 16 x15) :: (tI 7 x15) :: (K65m3 miles daily)) p e fun be av => ?_))
     refine wf ?_
     exact Exists.intro x ⟨Nat.lt_succ_self _, Exists.intro (IntKind.i64.wrap (x_v10 + 1)) ⟨_, _, rfl, av.kp, e, ae, d⟩⟩
   ·
    rw [l, cond_false] at d
    refine wp_exit ?_
    obtain rfl := Option.some.inj d
    exact Exists.intro () ⟨_, _, rfl, o.kp, e, ae, rfl⟩
 ·
  rintro _ bl ⟨ai, y, j, rfl, aw, ag, a7, rfl⟩
  rw [Ex.bind_go] at H
  refine wp_seq (wp_region_from (Rk 0 2 [(tI 6 x15)] aw ag fun bg ax => ?_))
  refine wf (wp_ret ?_)
  obtain rfl := Option.some.inj H
  exact rt (.one (.c (.int .i64 x15))) ax ag rfl
abbrev K28c1 (w_ : Wear) : List SC := [.int .i64 w_.miles.lo, .int .i64 w_.miles.hi, .int .i64 w_.daily.lo, .int .i64 w_.daily.hi, .int .i64 w_.age, .int .i64 w_.far, .int .i64 w_.long]
abbrev K28m2 (w_ : Wear) : TM := [(tI 22 w_.daily.lo), (tI 19 w_.miles.lo), (tA 16 (K28c1 w_)), (tI 14 w_.daily.hi), (tI 11 w_.miles.hi), (tA 8 (K28c1 w_))]
set_option maxRecDepth 100000 in
set_option maxHeartbeats 4000000 in
theorem pit_Due_ok (n : Nat) {h : Heap} {w : World} (hh : Has h w) (w_ : Wear) {cs_w_ : List Value} (hx_w_ : rep h w_ cs_w_) {r : Int × Int × Int} (H : pit_Due n w_ = some r) :
  Calls Try.prog 28 #[.agg cs_w_.toArray] w (Ret (fun h v => ∃ v0 v1 v2, v = .tuple #[v0, v1, v2] ∧ (v0 = .int .i64 r.1) ∧ (v1 = .int .i64 r.2.1) ∧ (v2 = .int .i64 r.2.2)) h w) := by
 obtain ⟨_, _, rfl, ⟨_, _, rfl, rfl, rfl⟩, ⟨_, _, rfl, ⟨_, _, rfl, rfl, rfl⟩, ⟨_, _, rfl, rfl, ⟨_, _, rfl, rfl, rfl⟩⟩⟩⟩ := hx_w_
 refine enter 24 [.agg (K28c1 w_)] Try.func28 rfl rfl rfl rfl fun t hk => ?_
 have hm := Mem.begin h w hh
 unfold pit_Due at H
 refine wp_seq (wp_region_from (wl fun K hK => ?_))
 refine wb (.agg (K28c1 w_)) hk hm fun b ad ag (x : Kn 24 [(b, 0)] [(tP 1 0 0), (tA 0 (K28c1 w_))] ad) (d : Mem ⟨w, h, noX⟩ h [(b, 0)] [⟨(K28c1 w_), some 53⟩] [] ag) => hK _ _ ?_
 refine Rk 1 3 [(tP 1 0 0)] x d fun ap aa => ?_
 refine wf (wp_seq (wp_seq (wp_region_from (Rk 0 1 [(tA 5 (K28c1 w_)), (tP 1 0 0)] aa d fun aq ab => ?_))))
 obtain ⟨x6, ex6, H⟩ := bnd H
 refine wl fun K hK => ?_
 refine wc [.agg (K28c1 w_)] ab d (pit_Wear_valid_ok n d.has w_ ((rep_pair (rep_pair rep_int rep_int) (rep_pair (rep_pair rep_int rep_int) (rep_pair rep_int (rep_pair rep_int rep_int)))) : rep h w_ _) ex6) fun ar m aw j ai a => ?_
 obtain rfl := j
 refine ⟨.one (.c (.bool x6)), rfl, fun ac (p : Kn 24 [(b, 0)] [(tB 6 x6), (tA 5 (K28c1 w_)), (tP 1 0 0)] ac) => hK _ _ ?_⟩
 refine Rk 2 1 [(tB 7 (!x6)), (tP 1 0 0)] p a fun al f => ?_
 refine wf (wC ((!x6)) f (fun e => ?_) (fun e => ?_))
 ·
  rw [e, cond_true] at H
  refine wp_seq (wp_region_from (Rk 0 3 [(tI 4 1), (tI 3 0), (tI 2 0)] f a fun am q => ?_))
  refine wf (wp_ret ?_)
  obtain rfl := Option.some.inj H
  exact rt (.tup [.c (.int .i64 0), .c (.int .i64 0), .c (.int .i64 1)]) q a ⟨_, _, _, rfl, rfl, rfl, rfl⟩
 ·
  rw [e, cond_false] at H
  refine wp_skip (wp_seq (wp_region_G (by kernel_rfl) ?_))
  replace a := a.drew
  refine wpG_of_D [] [(b, 0)] [⟨(K28c1 w_), some 53⟩] ?_
  refine Dr [0, 1, 2, 3, 4, 5, 6, 8, 9, 10, 11, 12, 13, 14] [14, 13, 12, 11, 10, 9, 8, 6, 5, 4, 3, 2, 1, 0] (K28m2 w_) f a fun an s => ?_
  obtain ⟨x15, ex15, H⟩ := bnd H
  refine Dl 7 fun K hK => ?_
  refine wc [.agg (K28c1 w_), .c (.int .i64 w_.miles.hi), .c (.int .i64 w_.daily.hi)] s a (pit_Wear_first_ok n a.has w_ ((rep_pair (rep_pair rep_int rep_int) (rep_pair (rep_pair rep_int rep_int) (rep_pair rep_int (rep_pair rep_int rep_int)))) : rep m w_ _) w_.miles.hi w_.daily.hi ex15) fun au o ax k aj g => ?_
  obtain rfl := k
  refine ⟨.one (.c (.int .i64 x15)), rfl, fun ae (u : Kn 24 [(b, 0)] ((tI 15 x15) :: (K28m2 w_)) ae) => hK _ _ g.plOk ?_⟩
  obtain ⟨x23, ex23, H⟩ := bnd H
  refine Dl 15 fun K hK => ?_
  refine wc [.agg (K28c1 w_), .c (.int .i64 w_.miles.lo), .c (.int .i64 w_.daily.lo)] u g (pit_Wear_first_ok n g.has w_ ((rep_pair (rep_pair rep_int rep_int) (rep_pair (rep_pair rep_int rep_int) (rep_pair rep_int (rep_pair rep_int rep_int)))) : rep o w_ _) w_.miles.lo w_.daily.lo ex23) fun av ah ay l ak i => ?_
  obtain rfl := l
  refine ⟨.one (.c (.int .i64 x23)), rfl, fun af (y : Kn 24 [(b, 0)] ((tI 23 x23) :: (tI 15 x15) :: (K28m2 w_)) af) => hK _ _ i.plOk ?_⟩
  refine Dr [16, 17, 18] [18, 17, 16, 15, 7, 14, 13, 12, 11, 10, 9, 8, 6, 5, 4, 3, 2, 1, 0] [(tI 4 0), (tI 3 x23), (tI 2 x15)] y i fun ao z => ?_
  refine wpD_end (by kernel_rfl) (wp_ret ?_)
  obtain rfl := Option.some.inj H
  exact rt (.tup [.c (.int .i64 x15), .c (.int .i64 x23), .c (.int .i64 0)]) z i ⟨_, _, _, rfl, rfl, rfl, rfl⟩
abbrev K111m1 (s : List Int) (a_s : Option Addr) (c_s : Nat) (fn_f : Fn) (fa_f fc_f : Array Value) : TM := [(tI 7 ((s.length : Nat) : Int)), (tS 0 a_s s.length c_s), (1, .one (.c (.func fn_f fa_f fc_f)))]
set_option maxRecDepth 100000 in
set_option maxHeartbeats 4000000 in
theorem slices_IndexFunc_int_int_ok (n : Nat) {h : Heap} {w : World} (hh : Has h w) (s : List Int) {a_s : Option Addr} {c_s : Nat} (hr_s : RepS h a_s c_s s) (f : Int → Option Bool) {fn_f : Fn} {fa_f fc_f : Array Value} (hf_f : Fn3 h (.func fn_f fa_f fc_f) f) {r : Int} (H : slices_IndexFunc_int_int n s f = some r) :
  Calls Try.prog 111 #[.slice a_s s.length c_s, .func fn_f fa_f fc_f] w (Ret (fun h v => v = .int .i64 r) h w) := by
 refine enter 19 [.c (.slice a_s s.length c_s), .c (.func fn_f fa_f fc_f)] Try.func111 rfl rfl rfl rfl fun t hk => ?_
 have hm := Mem.begin h w hh
 unfold slices_IndexFunc_int_int at H
 refine wp_seq (wp_region_from (Rk 0 1 [(tS 0 a_s s.length c_s), (1, .one (.c (.func fn_f fa_f fc_f)))] hk hm fun a7 aj => ?_))
 refine wf (wp_seq (wp_seq (wp_region_from (Rk 0 3 ((tI 8 0) :: (K111m1 s a_s c_s fn_f fa_f fc_f)) aj hm fun bb an => ?_))))
 refine wf ?_
 obtain ⟨ac, aa, H⟩ := bnd H
 refine wp_mid' (fun a' w' => ∃ (ad : Unit) (z : Array Value) (l : Heap), a' = ⟨z, []⟩ ∧ Kn 19 [] [] z ∧ Mem ⟨w, h, noX⟩ l [] [] [] w' ∧ Heap.le h l ∧ ac = .go ad) ?_ ?_
 ·
  refine wp_block ?_
  refine wp_loop_n (fun a1 a' w' => ∃ (x_v10 : Int) (y : Array Value) (e : Heap), a' = ⟨y, []⟩ ∧ Kn 19 [] ((tI 8 x_v10) :: (K111m1 s a_s c_s fn_f fa_f fc_f)) y ∧ Mem ⟨w, h, noX⟩ e [] [] [] w' ∧ Heap.le h e ∧ slices_IndexFunc_int_int_l1 a1 s f x_v10 = some ac) n ?_ ?_
  ·
   exact Exists.intro 0 ⟨_, _, rfl, an.kp, hm, (Heap.le_refl _), aa⟩
  ·
   rintro x _ a3 ⟨x_v10, y, e, rfl, ai, b, g, a⟩
   clear aa
   obtain _ | x := x
   ·
    rw [slices_IndexFunc_int_int_l1] at a; cases a
   rw [slices_IndexFunc_int_int_l1] at a
   replace hr_s := hr_s.mono g
   replace hf_f := hf_f.mono g
   refine wp_seq (wp_region_from (Rk 0 1 ((tB 9 (decide (x_v10 < ((s.length : Nat) : Int)))) :: (tI 8 x_v10) :: (K111m1 s a_s c_s fn_f fa_f fc_f)) ai b fun a8 p => ?_))
   refine wf (wp_seq (wC (decide (x_v10 < ((s.length : Nat) : Int))) p (fun m => ?_) (fun m => ?_)))
   ·
    rw [m, cond_true] at a
    refine wp_skip (wp_seq (wp_block (wp_seq (wp_region_from (Rk 0 2 ((tI 5 x_v10) :: (tI 8 x_v10) :: (K111m1 s a_s c_s fn_f fa_f fc_f)) p b fun a9 ak => ?_)))))
    refine wf (wp_seq (wp_region_from (Rk 0 3 ((tI 13 x_v10) :: (tS 12 a_s s.length c_s) :: (11, .one (.c (.func fn_f fa_f fc_f))) :: (tI 5 x_v10) :: (tI 8 x_v10) :: (K111m1 s a_s c_s fn_f fa_f fc_f)) ak b fun ba al => ?_)))
    obtain ⟨x14, ex14, a⟩ := bnd a
    obtain ⟨ax, ay, a0⟩ := idx_some ex14
    obtain ⟨d, k, a4, ag, az, ah⟩ := hr_s.get (by decide) a0
    obtain rfl := az
    have u : Mem ⟨w, h, noX⟩ e [(d, k + (x_v10 : Int).toNat * 1)] [⟨[.int .i64 x14], none⟩] [] a3 := b.addPlc (cs := [.int .i64 x14]) (fun j c hj => ah j _ (map_get hj)) rfl (by kernel_rfl) (by kernel_rfl)
    refine R_index 3 (x_v10) rfl rfl (rfl) rfl (by decide) al (by rfl) (by rfl) (by rfl) ag (by rfl) ax ay (by kernel_rfl) fun a2 (am : Kn 19 [(d, k + (x_v10 : Int).toNat * 1)] ((tP 14 0 0) :: (tI 13 x_v10) :: (tS 12 a_s s.length c_s) :: (11, .one (.c (.func fn_f fa_f fc_f))) :: (tI 5 x_v10) :: (tI 8 x_v10) :: (K111m1 s a_s c_s fn_f fa_f fc_f)) a2) => ?_
    refine Rk 4 1 ((tI 15 x14) :: (11, .one (.c (.func fn_f fa_f fc_f))) :: (tI 5 x_v10) :: (tI 8 x_v10) :: (K111m1 s a_s c_s fn_f fa_f fc_f)) am u fun bc ao => ?_
    obtain ⟨x16, ex16, a⟩ := bnd a
    refine wl fun K hK => ?_
    refine wp_callV (.func fn_f fa_f fc_f) [.c (.int .i64 x14)] _ ao u rfl rfl (by decide) (by rfl) (by rfl) rfl (hf_f _ _ (Heap.le_refl _) u.has x14 _ ex16) fun bg a5 bh af aw i => ?_
    obtain rfl := af
    refine ⟨.one (.c (.bool x16)), rfl, fun ae (ap : Kn 19 [(d, k + (x_v10 : Int).toNat * 1)] ((tB 16 x16) :: (tI 15 x14) :: (11, .one (.c (.func fn_f fa_f fc_f))) :: (tI 5 x_v10) :: (tI 8 x_v10) :: (K111m1 s a_s c_s fn_f fa_f fc_f)) ae) => hK _ _ ?_⟩
    have q : Kn 19 [(d, k + (x_v10 : Int).toNat * 1)] ((tB 16 x16) :: (tI 5 x_v10) :: (tI 8 x_v10) :: (K111m1 s a_s c_s fn_f fa_f fc_f)) ae := ap.kp
    refine wf (wC (x16) q (fun o => ?_) (fun o => ?_))
    ·
     rw [o, cond_true] at a
     refine wp_seq (wp_region_from (Rk 0 2 [(tI 4 x_v10)] q i fun bd aq => ?_))
     refine wf (wp_ret ?_)
     obtain rfl := Option.some.inj a
     obtain rfl := Option.some.inj H
     exact rt (.one (.c (.int .i64 x_v10))) aq i rfl
    ·
     rw [o, cond_false] at a
     refine wp_skip (wp_region_from (Rk 0 2 ((tI 8 (IntKind.i64.wrap (x_v10 + 1))) :: (K111m1 s a_s c_s fn_f fa_f fc_f)) q i fun be ar => ?_))
     refine wf ?_
     exact Exists.intro x ⟨Nat.lt_succ_self _, Exists.intro (IntKind.i64.wrap (x_v10 + 1)) ⟨_, _, rfl, ((ar.keep [8, 7, 0, 1] (by rfl)).cut 0 (by kernel_rfl)), (i.cutPl 0 (by kernel_rfl)), (Heap.le_trans g aw), a⟩⟩
   ·
    rw [m, cond_false] at a
    refine wp_exit ?_
    obtain rfl := Option.some.inj a
    exact Exists.intro () ⟨_, _, rfl, p.kp, b, g, rfl⟩
 ·
  rintro _ bi ⟨ad, z, l, rfl, au, ab, a6, rfl⟩
  rw [Ex.bind_go] at H
  refine wp_seq (wp_region_from (Rk 0 1 [(tI 4 (-1))] au ab fun bf av => ?_))
  refine wf (wp_ret ?_)
  obtain rfl := Option.some.inj H
  exact rt (.one (.c (.int .i64 (-1)))) av ab rfl
set_option maxRecDepth 100000 in
set_option maxHeartbeats 4000000 in
theorem slices_ContainsFunc_int_int_ok (n : Nat) {h : Heap} {w : World} (hh : Has h w) (s : List Int) {a_s : Option Addr} {c_s : Nat} (hr_s : RepS h a_s c_s s) (f : Int → Option Bool) {fn_f : Fn} {fa_f fc_f : Array Value} (hf_f : Fn3 h (.func fn_f fa_f fc_f) f) {r : Bool} (H : slices_ContainsFunc_int_int n s f = some r) :
  Calls Try.prog 90 #[.slice a_s s.length c_s, .func fn_f fa_f fc_f] w (Ret (fun h v => v = .bool r) h w) := by
 refine enter 9 [.c (.slice a_s s.length c_s), .c (.func fn_f fa_f fc_f)] Try.func90 rfl rfl rfl rfl fun t hk => ?_
 have hm := Mem.begin h w hh
 unfold slices_ContainsFunc_int_int at H
 refine wp_seq (wp_region_from (Rk 0 1 [(tS 0 a_s s.length c_s), (1, .one (.c (.func fn_f fa_f fc_f)))] hk hm fun m g => ?_))
 refine wf (wp_seq (wp_region_from (Rk 0 2 [(6, .one (.c (.func fn_f fa_f fc_f))), (tS 5 a_s s.length c_s)] g hm fun p i => ?_)))
 obtain ⟨x7, ex7, H⟩ := bnd H
 refine wl fun K hK => ?_
 refine wc [.c (.slice a_s s.length c_s), .c (.func fn_f fa_f fc_f)] i hm (slices_IndexFunc_int_int_ok n hm.has s hr_s f hf_f ex7) fun q k u b l a => ?_
 obtain rfl := b
 refine ⟨.one (.c (.int .i64 x7)), rfl, fun j (d : Kn 9 [] [(tI 7 x7), (6, .one (.c (.func fn_f fa_f fc_f))), (tS 5 a_s s.length c_s)] j) => hK _ _ ?_⟩
 refine Rk 3 2 [(tB 4 (decide (x7 ≥ 0)))] d a fun o e => ?_
 refine wf (wp_ret ?_)
 obtain rfl := Option.some.inj H
 exact rt (.one (.c (.bool (decide (x7 ≥ 0))))) e a rfl
set_option maxRecDepth 100000 in
set_option maxHeartbeats 4000000 in
theorem pit_all_int_1_ok (n : Nat) {h : Heap} {w : World} (hh : Has h w) (x : Int) (q0 : Int → Option Bool) {b_q0 : Nat} (hb_q0 : BoxS h b_q0 q0) {r : Bool} (H : pit_all_int_1 n x q0 = some r) :
  Calls Try.prog 91 #[.int .i64 x, .pointer (some ⟨b_q0, 0, none⟩)] w (Ret (fun h v => v = .bool r) h w) := by
 obtain ⟨_, hx_q0, hc_q0⟩ := id hb_q0
 obtain ⟨d, a, b, rfl, i⟩ := hx_q0
 refine enter' (e := [(b_q0, 0)]) 8 [.c (.int .i64 x), .c (.ptr 0 0)] Try.func91 rfl rfl rfl rfl fun t hk => ?_
 have hm := Mem.begin h w hh
 replace hm := hm.addPlc (o := 0) (cs := [.func d a b]) (fun j c hj => by rw [Nat.zero_add]; exact hc_q0 j _ (map_get hj)) rfl (by kernel_rfl) (by kernel_rfl)
 replace hm : Mem ⟨w, h, noX⟩ h [(b_q0, 0)] [⟨[.func d a b], none⟩] [] w := hm
 unfold pit_all_int_1 at H
 refine wp_seq (wp_region_from (Rk 0 1 [(tI 0 x), (tP 1 0 0)] hk hm fun z m => ?_))
 refine wf (wp_seq (wp_region_from (Rk 0 2 [(tI 5 x), (4, .one (.c (.func d a b)))] m hm fun aa p => ?_)))
 obtain ⟨x6, ex6, H⟩ := bnd H
 refine wl fun K hK => ?_
 refine wp_callV (.func d a b) [.c (.int .i64 x)] _ p hm rfl rfl (by decide) (by rfl) (by rfl) rfl (i _ _ (Heap.le_refl _) hm.has x _ ex6) fun ab s ac g u f => ?_
 obtain rfl := g
 refine ⟨.one (.c (.bool x6)), rfl, fun q (k : Kn 8 [(b_q0, 0)] [(tB 6 x6), (tI 5 x), (4, .one (.c (.func d a b)))] q) => hK _ _ ?_⟩
 refine Rk 3 2 [(tB 3 (!x6))] k f fun y l => ?_
 refine wf (wp_ret ?_)
 obtain rfl := Option.some.inj H
 exact rt (.one (.c (.bool (!x6)))) l f rfl
set_option maxRecDepth 100000 in
set_option maxHeartbeats 4000000 in
theorem pit_all_int_ok (n : Nat) {h : Heap} {w : World} (hh : Has h w) (l : List Int) {a_l : Option Addr} {c_l : Nat} (hr_l : RepS h a_l c_l l) (right : Int → Option Bool) {fn_right : Fn} {fa_right fc_right : Array Value} (hf_right : Fn3 h (.func fn_right fa_right fc_right) right) {r : Bool} (H : pit_all_int n l right = some r) :
  Calls Try.prog 67 #[.slice a_l l.length c_l, .func fn_right fa_right fc_right] w (Ret (fun h v => v = .bool r) h w) := by
 refine enter 9 [.c (.slice a_l l.length c_l), .c (.func fn_right fa_right fc_right)] Try.func67 rfl rfl rfl rfl fun t hk => ?_
 have hm := Mem.begin h w hh
 unfold pit_all_int at H
 refine wp_seq (wp_region_from (wl fun K hK => ?_))
 refine wb (.c (.func fn_right fa_right fc_right)) hk hm fun a ab m (x : Kn 9 [(a, 0)] [(tP 3 0 0), (tS 0 a_l l.length c_l), (1, .one (.c (.func fn_right fa_right fc_right)))] ab) (f : Mem ⟨w, h, noX⟩ h [(a, 0)] [⟨[.func fn_right fa_right fc_right], some 103⟩] [] m) => hK _ _ ?_
 refine Rk 1 1 [(tP 3 0 0), (tS 0 a_l l.length c_l)] x f fun ah y => ?_
 refine wf (wp_seq (wp_region_from (Rk 0 1 [(tS 5 a_l l.length c_l), (tP 3 0 0)] y f fun ai z => ?_)))
 obtain ⟨b, j, g, d⟩ := f.settlePlc (i := 0) rfl
 replace hr_l := hr_l.mono j
 replace hf_right := hf_right.mono j
 replace d : Mem ⟨w, h, noX⟩ b [(a, 0)] [⟨[.func fn_right fa_right fc_right], none⟩] [] m := d
 have p : BoxS b a (right : Int → Option Bool) := BoxS.of (e := [(a, 0)]) (cs := [.func fn_right fa_right fc_right]) (⟨_, _, _, rfl, hf_right⟩ : rep b (right : Int → Option Bool) _) rfl g
 have ae : CellsAt b a [.func fn_right fa_right fc_right] := CellsAt.of (e := [(a, 0)]) (cs := [.func fn_right fa_right fc_right]) rfl g
 refine R_func 1 #[] #[.pointer (some ⟨a, 0, none⟩)] z rfl rfl (rfl) rfl (by decide) (by rfl) (by rfl) (by rfl) (by rfl) fun aa (q : Kn 9 [(a, 0)] [(6, .one (.c (.func (.func 91) #[] #[.pointer (some ⟨a, 0, none⟩)]))), (tS 5 a_l l.length c_l), (tP 3 0 0)] aa) => ?_
 obtain ⟨x7, ex7, H⟩ := bnd H
 refine wl fun K hK => ?_
 refine wc [.c (.slice a_l l.length c_l), .c (.func (.func 91) #[] #[.pointer (some ⟨a, 0, none⟩)])] q d (slices_ContainsFunc_int_int_ok n d.has l hr_l (fun (y0 : Int) => pit_all_int_1 n y0 right) (show Fn3 b (.func (.func 91) #[] #[.pointer (some ⟨a, 0, none⟩)]) (fun (y0 : Int) => pit_all_int_1 n y0 right) from fun h2 w2 hle hh y0 r H => ⟨91, _, _, rfl, fun _ _ => by kernel_rfl, pit_all_int_1_ok n hh y0 right (p.mono hle) H⟩) ex7) fun aj ad ak o af k => ?_
 obtain rfl := o
 refine ⟨.one (.c (.bool x7)), rfl, fun ac (s : Kn 9 [(a, 0)] [(tB 7 x7), (6, .one (.c (.func (.func 91) #[] #[.pointer (some ⟨a, 0, none⟩)]))), (tS 5 a_l l.length c_l), (tP 3 0 0)] ac) => hK _ _ ?_⟩
 refine Rk 3 2 [(tB 4 (!x7))] s k fun ag u => ?_
 refine wf (wp_ret ?_)
 obtain rfl := Option.some.inj H
 exact rt (.one (.c (.bool (!x7)))) u k rfl
end Go.Proofs.Ytkbphdjemgibnaa
