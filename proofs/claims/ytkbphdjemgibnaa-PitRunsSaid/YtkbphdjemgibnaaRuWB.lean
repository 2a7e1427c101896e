/- Each call computes its plain function. -/
import Derived.Test.YtkbphdjemgibnaaProg
import Derived.Test.YtkbphdjemgibnaaRuP0
import Derived.Test.YtkbphdjemgibnaaRuWA
set_option linter.all false
namespace Go.Proofs.Ytkbphdjemgibnaa
open Go Go.RowKit
open Rep (rep)
open KRep (kv)
open VRep (rv)
abbrev K29c1 (w_ : Wear) : List SC := [.int .i64 w_.miles.lo, .int .i64 w_.miles.hi, .int .i64 w_.daily.lo, .int .i64 w_.daily.hi, .int .i64 w_.age, .int .i64 w_.far, .int .i64 w_.long]
set_option maxRecDepth 100000 in
set_option maxHeartbeats 4000000 in
theorem law_Wear_ok (n : Nat) {h : Heap} {w : World} (hh : Has h w) (w_ : Wear) {cs_w_ : List Value} (hx_w_ : rep h w_ cs_w_) {r : Wear} (H : law_Wear n w_ = some r) :
  Calls Try.prog 29 #[.agg cs_w_.toArray] w (Ret (fun h v => ∃ cs, v = .agg cs.toArray ∧ rep h r cs) h w) := by
 obtain ⟨_, _, rfl, ⟨_, _, rfl, rfl, rfl⟩, ⟨_, _, rfl, ⟨_, _, rfl, rfl, rfl⟩, ⟨_, _, rfl, rfl, ⟨_, _, rfl, rfl, rfl⟩⟩⟩⟩ := hx_w_
 refine enter 24 [.agg (K29c1 w_)] Try.func29 rfl rfl rfl rfl fun t hk => ?_
 have hm := Mem.begin h w hh
 unfold law_Wear at H
 refine wp_seq (wp_region_from (wl fun K hK => ?_))
 refine wb (.agg (K29c1 w_)) hk hm fun a p s (j : Kn 24 [(a, 0)] [(tP 1 0 0), (tA 0 (K29c1 w_))] p) (m : Mem ⟨w, h, noX⟩ h [(a, 0)] [⟨(K29c1 w_), some 48⟩] [] s) => hK _ _ ?_
 refine wl fun K hK => ?_
 refine wa [.int .i64 0, .int .i64 0, .int .i64 0, .int .i64 0, .int .i64 0, .int .i64 0, .int .i64 0] j m fun b d u (k : Kn 24 [(a, 0), (b, 0)] [(tP 2 1 0), (tP 1 0 0), (tA 0 (K29c1 w_))] d) (c : Mem ⟨w, h, noX⟩ h [(a, 0), (b, 0)] [⟨(K29c1 w_), some 48⟩, ⟨[.int .i64 0, .int .i64 0, .int .i64 0, .int .i64 0, .int .i64 0, .int .i64 0, .int .i64 0], some 53⟩] [] u) => hK _ _ ?_
 have e : Kn 24 [(a, 0), (b, 0)] [(tP 2 1 0), (tP 1 0 0)] d := k.kp
 refine wf (wp_seq (wp_region_from (Rk 0 21 [(tA 23 (K29c1 w_)), (tP 2 1 0)] e c fun o f => ?_)))
 refine wl fun K hK => ?_
 refine wst 1 0 (.agg (K29c1 w_)) (K29c1 w_) f c fun q g (l : Mem ⟨w, h, noX⟩ h [(a, 0), (b, 0)] [⟨(K29c1 w_), some 48⟩, ⟨(K29c1 w_), some 53⟩] [] q) => hK _ _ ?_
 have i : Kn 24 [(a, 0), (b, 0)] [(tP 2 1 0)] o := g.kp
 refine wf (wp_ret ?_)
 obtain rfl := Option.some.inj H
 exact rt (.one (.agg (K29c1 w_))) i l ⟨_, rfl, ((rep_pair (rep_pair rep_int rep_int) (rep_pair (rep_pair rep_int rep_int) (rep_pair rep_int (rep_pair rep_int rep_int)))) : rep h (w_ : Wear) _)⟩
set_option maxRecDepth 100000 in
set_option maxHeartbeats 4000000 in
theorem ref_span_ok (n : Nat) {h : Heap} {w : World} (hh : Has h w) (r_ : Rg) {cs_r_ : List Value} (hx_r_ : rep h r_ cs_r_) (most : Int) {r : Bool} (H : ref_span n r_ most = some r) :
  Calls Try.prog 68 #[.agg cs_r_.toArray, .int .i64 most] w (Ret (fun h v => v = .bool r) h w) := by
 obtain ⟨_, _, rfl, rfl, rfl⟩ := hx_r_
 refine enter 16 [.agg [.int .i64 r_.lo, .int .i64 r_.hi], .c (.int .i64 most)] Try.func68 rfl rfl rfl rfl fun t hk => ?_
 have hm := Mem.begin h w hh
 unfold ref_span at H
 refine wp_seq (wp_region_from (wl fun K hK => ?_))
 refine wb (.agg [.int .i64 r_.lo, .int .i64 r_.hi]) hk hm fun a x y (p : Kn 16 [(a, 0)] [(tP 2 0 0), (tA 0 [.int .i64 r_.lo, .int .i64 r_.hi]), (tI 1 most)] x) (e : Mem ⟨w, h, noX⟩ h [(a, 0)] [⟨[.int .i64 r_.lo, .int .i64 r_.hi], some 46⟩] [] y) => hK _ _ ?_
 refine Rk 1 1 [(tP 2 0 0), (tI 1 most)] p e fun ad q => ?_
 refine wf (wp_seq (wp_region_from (Rk 0 4 [(tI 8 r_.hi), (tI 6 r_.lo), (tP 2 0 0), (tI 1 most)] q e fun ae s => ?_)))
 obtain ⟨x9, ex9, H⟩ := bnd H
 refine wl fun K hK => ?_
 refine wc [.c (.int .i64 r_.lo), .c (.int .i64 0), .c (.int .i64 r_.hi)] s e (ref_In_ok n e.has r_.lo 0 r_.hi ex9) fun af z ag i aa d => ?_
 obtain rfl := i
 refine ⟨.one (.c (.bool x9)), rfl, fun u (j : Kn 16 [(a, 0)] [(tB 9 x9), (tI 8 r_.hi), (tI 6 r_.lo), (tP 2 0 0), (tI 1 most)] u) => hK _ _ ?_⟩
 refine Rk 5 1 [(tB 10 x9), (tP 2 0 0), (tI 1 most)] j d fun g f => ?_
 rcases Bool.eq_false_or_eq_true (x9) with b | b
 ·
  rw [b, cond_true] at H
  have k : Kn 16 [(a, 0)] [(tB 10 true), (tP 2 0 0), (tI 1 most)] g := (f.setB 10 true (by rfl) b).kp
  refine Rk 6 6 [(tB 4 (decide (r_.hi ≤ most)))] k d fun ab l => ?_
  refine wf (wp_ret ?_)
  obtain rfl := Option.some.inj H
  exact rt (.one (.c (.bool (decide (r_.hi ≤ most))))) l d rfl
 ·
  rw [b, cond_false] at H
  have m : Kn 16 [(a, 0)] [(tB 10 false), (tP 2 0 0), (tI 1 most)] g := (f.setB 10 false (by rfl) b).kp
  refine Rk 6 6 [(tB 4 false)] m d fun ac o => ?_
  refine wf (wp_ret ?_)
  obtain rfl := Option.some.inj H
  exact rt (.one (.c (.bool false))) o d rfl
abbrev K32c1 (w_ : Wear) : List SC := [.int .i64 w_.miles.lo, .int .i64 w_.miles.hi, .int .i64 w_.daily.lo, .int .i64 w_.daily.hi, .int .i64 w_.age, .int .i64 w_.far, .int .i64 w_.long]
set_option maxRecDepth 100000 in
set_option maxHeartbeats 4000000 in
theorem ref_RightWear_ok (n : Nat) {h : Heap} {w : World} (hh : Has h w) (w_ : Wear) {cs_w_ : List Value} (hx_w_ : rep h w_ cs_w_) {r : Bool} (H : ref_RightWear n w_ = some r) :
  Calls Try.prog 32 #[.agg cs_w_.toArray] w (Ret (fun h v => v = .bool r) h w) := by
 obtain ⟨_, _, rfl, ⟨_, _, rfl, rfl, rfl⟩, ⟨_, _, rfl, ⟨_, _, rfl, rfl, rfl⟩, ⟨_, _, rfl, rfl, ⟨_, _, rfl, rfl, rfl⟩⟩⟩⟩ := hx_w_
 refine enter 26 [.agg (K32c1 w_)] Try.func32 rfl rfl rfl rfl fun t hk => ?_
 have hm := Mem.begin h w hh
 unfold ref_RightWear at H
 refine wp_seq (wp_region_from (wl fun K hK => ?_))
 refine wb (.agg (K32c1 w_)) hk hm fun a a8 bd (ao : Kn 26 [(a, 0)] [(tP 1 0 0), (tA 0 (K32c1 w_))] a8) (l : Mem ⟨w, h, noX⟩ h [(a, 0)] [⟨(K32c1 w_), some 48⟩] [] bd) => hK _ _ ?_
 refine Rk 1 1 [(tP 1 0 0)] ao l fun bq av => ?_
 refine wf (wp_seq (wp_region_from (Rk 0 2 [(tA 4 [.int .i64 w_.miles.lo, .int .i64 w_.miles.hi]), (tP 1 0 0)] av l fun bu a6 => ?_)))
 obtain ⟨x5, ex5, H⟩ := bnd H
 refine wl fun K hK => ?_
 refine wc [.agg [.int .i64 w_.miles.lo, .int .i64 w_.miles.hi], .c (.int .i64 100000)] a6 l (ref_span_ok n l.has w_.miles ((rep_pair rep_int rep_int) : rep h w_.miles _) 100000 ex5) fun bz aj b4 ae bi b => ?_
 obtain rfl := ae
 refine ⟨.one (.c (.bool x5)), rfl, fun a7 (ak : Kn 26 [(a, 0)] [(tB 5 x5), (tA 4 [.int .i64 w_.miles.lo, .int .i64 w_.miles.hi]), (tP 1 0 0)] a7) => hK _ _ ?_⟩
 refine Rk 3 1 [(tB 6 x5), (tP 1 0 0)] ak b fun aa m => ?_
 rcases Bool.eq_false_or_eq_true (x5) with g | g
 ·
  rw [g, cond_true] at H
  have al : Kn 26 [(a, 0)] [(tB 6 true), (tP 1 0 0)] aa := (m.setB 6 true (by rfl) g).kp
  refine Rk 4 2 [(tA 8 [.int .i64 w_.daily.lo, .int .i64 w_.daily.hi]), (tB 6 true), (tP 1 0 0)] al b fun bn o => ?_
  obtain ⟨x9, ex9, H⟩ := bnd H
  refine wpFrom_loud _ rfl (wantedS_sound o (by kernel_rfl)) fun K hK => ?_
  refine wc [.agg [.int .i64 w_.daily.lo, .int .i64 w_.daily.hi], .c (.int .i64 1000)] o b (ref_span_ok n b.has w_.daily ((rep_pair rep_int rep_int) : rep aj w_.daily _) 1000 ex9) fun b0 be b5 af bj d => ?_
  obtain rfl := af
  refine ⟨.one (.c (.bool x9)), rfl, fun a9 (am : Kn 26 [(a, 0)] [(tB 9 x9), (tA 8 [.int .i64 w_.daily.lo, .int .i64 w_.daily.hi]), (tB 6 true), (tP 1 0 0)] a9) => hK _ _ ?_⟩
  refine Rk 7 2 [(tB 11 x9), (tP 1 0 0)] am d fun ab p => ?_
  rcases Bool.eq_false_or_eq_true (x9) with i | i
  ·
   rw [i, cond_true] at H
   have an : Kn 26 [(a, 0)] [(tB 11 true), (tP 1 0 0)] ab := (p.setB 11 true (by rfl) i).kp
   refine Rk 9 2 [(tI 13 w_.age), (tB 11 true), (tP 1 0 0)] an d fun bo q => ?_
   obtain ⟨x14, ex14, H⟩ := bnd H
   refine wpFrom_loud _ rfl (wantedS_sound q (by kernel_rfl)) fun K hK => ?_
   refine wc [.c (.int .i64 w_.age), .c (.int .i64 0), .c (.int .i64 1000)] q d (ref_In_ok n d.has w_.age 0 1000 ex14) fun b1 bf b6 ag bk e => ?_
   obtain rfl := ag
   refine ⟨.one (.c (.bool x14)), rfl, fun ba (ap : Kn 26 [(a, 0)] [(tB 14 x14), (tI 13 w_.age), (tB 11 true), (tP 1 0 0)] ba) => hK _ _ ?_⟩
   refine Rk 12 2 [(tB 16 x14), (tP 1 0 0)] ap e fun ac s => ?_
   rcases Bool.eq_false_or_eq_true (x14) with j | j
   ·
    rw [j, cond_true] at H
    have aq : Kn 26 [(a, 0)] [(tB 16 true), (tP 1 0 0)] ac := (s.setB 16 true (by rfl) j).kp
    refine Rk 14 2 [(tI 18 w_.far), (tB 16 true), (tP 1 0 0)] aq e fun bp u => ?_
    obtain ⟨x19, ex19, H⟩ := bnd H
    refine wpFrom_loud _ rfl (wantedS_sound u (by kernel_rfl)) fun K hK => ?_
    refine wc [.c (.int .i64 w_.far), .c (.int .i64 1), .c (.int .i64 100000)] u e (ref_In_ok n e.has w_.far 1 100000 ex19) fun b2 bg b7 ah bl f => ?_
    obtain rfl := ah
    refine ⟨.one (.c (.bool x19)), rfl, fun bb (ar : Kn 26 [(a, 0)] [(tB 19 x19), (tI 18 w_.far), (tB 16 true), (tP 1 0 0)] bb) => hK _ _ ?_⟩
    refine Rk 17 2 [(tB 21 x19), (tP 1 0 0)] ar f fun ad x => ?_
    rcases Bool.eq_false_or_eq_true (x19) with k | k
    ·
     rw [k, cond_true] at H
     have au : Kn 26 [(a, 0)] [(tB 21 true), (tP 1 0 0)] ad := (x.setB 21 true (by rfl) k).kp
     refine Rk 19 2 [(tI 23 w_.long), (tB 21 true)] au f fun br y => ?_
     obtain ⟨x24, ex24, H⟩ := bnd H
     refine wpFrom_loud _ rfl (wantedS_sound y (by kernel_rfl)) fun K hK => ?_
     refine wc [.c (.int .i64 w_.long), .c (.int .i64 1), .c (.int .i64 1000)] y f (ref_In_ok n f.has w_.long 1 1000 ex24) fun b3 bh b8 ai bm z => ?_
     obtain rfl := ai
     refine ⟨.one (.c (.bool x24)), rfl, fun bc (aw : Kn 26 [(a, 0)] [(tB 24 x24), (tI 23 w_.long), (tB 21 true)] bc) => hK _ _ ?_⟩
     refine Rk 22 2 [(tB 2 x24)] aw z fun bs ax => ?_
     refine wf (wp_ret ?_)
     obtain rfl := Option.some.inj H
     exact rt (.one (.c (.bool x24))) ax z rfl
    ·
     rw [k, cond_false] at H
     have ay : Kn 26 [(a, 0)] [(tB 21 false), (tP 1 0 0)] ad := (x.setB 21 false (by rfl) k).kp
     refine Rk 19 5 [(tB 2 false)] ay f fun bt az => ?_
     refine wf (wp_ret ?_)
     obtain rfl := Option.some.inj H
     exact rt (.one (.c (.bool false))) az f rfl
   ·
    rw [j, cond_false] at H
    have a0 : Kn 26 [(a, 0)] [(tB 16 false), (tP 1 0 0)] ac := (s.setB 16 false (by rfl) j).kp
    refine Rk 14 10 [(tB 2 false)] a0 e fun bv a1 => ?_
    refine wf (wp_ret ?_)
    obtain rfl := Option.some.inj H
    exact rt (.one (.c (.bool false))) a1 e rfl
  ·
   rw [i, cond_false] at H
   have a2 : Kn 26 [(a, 0)] [(tB 11 false), (tP 1 0 0)] ab := (p.setB 11 false (by rfl) i).kp
   refine Rk 9 15 [(tB 2 false)] a2 d fun bw a3 => ?_
   refine wf (wp_ret ?_)
   obtain rfl := Option.some.inj H
   exact rt (.one (.c (.bool false))) a3 d rfl
 ·
  rw [g, cond_false] at H
  have a4 : Kn 26 [(a, 0)] [(tB 6 false), (tP 1 0 0)] aa := (m.setB 6 false (by rfl) g).kp
  refine Rk 4 20 [(tB 2 false)] a4 b fun bx a5 => ?_
  refine wf (wp_ret ?_)
  obtain rfl := Option.some.inj H
  exact rt (.one (.c (.bool false))) a5 b rfl
set_option maxRecDepth 100000 in
set_option maxHeartbeats 4000000 in
theorem ref_Days_ok (n : Nat) {h : Heap} {w : World} (hh : Has h w) (n_ : Int) (many : Int) {r : List Int} (H : ref_Days n n_ many = some r) :
  Calls Try.prog 36 #[.int .i64 n_, .int .i64 many] w (Ret (fun h v => ∃ a c, v = .slice a r.length c ∧ RepS h a c r) h w) := by
 refine enter 17 [.c (.int .i64 n_), .c (.int .i64 many)] Try.func36 rfl rfl rfl rfl fun t hk => ?_
 have hm := Mem.begin h w hh
 unfold ref_Days at H
 refine wp_seq (wp_region_from (Rk 0 1 [(tI 0 n_), (tI 1 many)] hk hm fun bg ar => ?_))
 refine wf (wp_seq (wp_region_from (Rk 0 1 [(tS 5 none 0 0), (tI 0 n_), (tI 1 many)] ar hm fun bh ax => ?_)))
 refine wf (wp_seq (wp_seq (wp_region_from (Rk 0 1 [(tI 6 0), (tS 5 none 0 0), (tI 0 n_), (tI 1 many)] ax hm fun bk a2 => ?_))))
 refine wf ?_
 have a6 : Mem ⟨w, h, noX⟩ h [] [] [⟨none, 0, 0, 3, 1, [], 0⟩] w := hm.nilRow 3 1
 have ap : Cells h ([] : List Int) [] := Cells.nil
 obtain ⟨g, ai, H⟩ := bnd H
 refine wp_mid' (fun a' w' => ∃ (k : Option Addr) (l : Nat) (p : List Value) (ag : Array Value) (s : Heap), a' = ⟨ag, []⟩ ∧ Kn 17 [] [(tS 5 k g.length l)] ag ∧ Mem ⟨w, h, noX⟩ s [] [] [⟨k, g.length, l, 3, 1, p, 0⟩] w' ∧ Heap.le h s ∧ Cells s g p) ?_ ?_
 ·
  refine wp_block ?_
  refine wp_loop_n (fun a9 a' w' => ∃ (x_v10 : List Int) (x_v11 : Int) (b : Option Addr) (d : Nat) (j : List Value) (ah : Array Value) (e : Heap), a' = ⟨ah, []⟩ ∧ Kn 17 [] [(tI 6 x_v11), (tS 5 b x_v10.length d), (tI 0 n_), (tI 1 many)] ah ∧ Mem ⟨w, h, noX⟩ e [] [] [⟨b, x_v10.length, d, 3, 1, j, 0⟩] w' ∧ Heap.le h e ∧ Cells e x_v10 j ∧ ref_Days_l1 a9 n_ many x_v10 x_v11 = some g) n ?_ ?_
  ·
   exact Exists.intro ([] : List Int) ⟨0, none, 0, ([]), _, _, rfl, a2.kp, a6, (Heap.le_refl _), ap, ai⟩
  ·
   rintro af _ bo ⟨x_v10, x_v11, b, d, j, ah, e, rfl, au, u, am, al, f⟩
   clear ai
   obtain _ | af := af
   ·
    rw [ref_Days_l1] at f; cases f
   rw [ref_Days_l1] at f
   refine wp_seq (wp_seq (wp_region_from (Rk 0 3 [(tB 9 (decide (x_v11 < many))), (tI 6 x_v11), (tS 5 b x_v10.length d), (tI 0 n_), (tI 1 many)] au u fun bi aa => ?_)))
   refine wf (wC (decide (x_v11 < many)) aa (fun x => ?_) (fun x => ?_))
   ·
    rw [x, cond_true] at f
    refine wp_skip (wp_seq (wp_block (wp_region_from (Rk 0 2 [(tI 13 n_), (tS 12 b x_v10.length d), (tI 6 x_v11), (tI 0 n_), (tI 1 many)] aa u fun bj av => ?_))))
    refine wl fun K hK => ?_
    refine wS 3 1 [.int .i64 n_] av u fun q ba bc (aw : Kn 17 [] [(tS 14 q 1 1), (tI 13 n_), (tS 12 b x_v10.length d), (tI 6 x_v11), (tI 0 n_), (tI 1 many)] ba) (an : Mem ⟨w, h, noX⟩ e [] [] [⟨b, x_v10.length, d, 3, 1, j, 0⟩, ⟨q, 1, 1, 3, 1, ([.int .i64 n_] : List Value), 0⟩] bc) => ?_
    have z : Cells e ([n_] : List Int) ([.int .i64 n_] : List Value) := ⟨_, _, rfl, (rep_int : rep e (n_ : Int) _), rfl⟩
    refine hK _ _ ?_
    obtain ⟨x15, ex15, f⟩ := bnd f
    obtain ⟨ae, a4⟩ := app_some ex15
    refine wl fun K hK => ?_
    refine wp_append 0 8 1 _ (x15.length) _ ([.int .i64 n_] : List Value) aw an rfl rfl (by decide) rfl (by rfl) (by kernel_rfl) (by rfl) (by rfl) (Cells.len z) (an.rowCell (i := 1) rfl) z.one (by rw [ae]; simp <;> omega) (by rw [ae]; exact a4) (by decide) fun m o aj bb bd aq (ay : Kn 17 [] [(tS 15 m x15.length o), (tS 14 q 1 1), (tI 13 n_), (tS 12 b x_v10.length d), (tI 6 x_v11), (tI 0 n_), (tI 1 many)] bb) (ab : Mem ⟨w, h, noX⟩ e [] [] [⟨m, x15.length, o, 3, 1, (j ++ ([.int .i64 n_] : List Value)), aj⟩, ⟨q, 1, 1, 3, 1, ([.int .i64 n_] : List Value), 0⟩] bd) => ?_
    have ao : Cells e x15 (j ++ ([.int .i64 n_] : List Value)) := by rw [ae]; exact Cells.append al z
    obtain rfl : aj = 0 := Nat.le_zero.1 aq
    refine hK _ _ ?_
    refine Rk 4 1 [(tS 5 m x15.length o), (tI 6 x_v11), (tI 0 n_), (tI 1 many)] ay ab fun bl az => ?_
    refine wf (wp_region_from (Rk 0 3 [(tI 6 (IntKind.i64.wrap (x_v11 + 1))), (tS 5 m x15.length o), (tI 0 n_), (tI 1 many)] az ab fun bm a0 => ?_))
    refine wf ?_
    exact Exists.intro af ⟨Nat.lt_succ_self _, Exists.intro x15 ⟨(IntKind.i64.wrap (x_v11 + 1)), m, o, (j ++ ([.int .i64 n_] : List Value)), _, _, rfl, a0.kp, (ab.cutRw 1), am, ao, f⟩⟩
   ·
    rw [x, cond_false] at f
    refine wp_exit ?_
    obtain rfl := Option.some.inj f
    exact Exists.intro b ⟨d, j, _, _, rfl, aa.kp, u, am, al⟩
 ·
  rintro _ be ⟨k, l, p, ag, s, rfl, a1, ac, bf, y⟩
  refine wp_seq (wp_region_from (Rk 0 2 [(tS 4 k g.length l)] a1 ac fun bn a3 => ?_))
  refine wf (wp_ret ?_)
  obtain ⟨ak, a5, a8, ad⟩ := ac.settle (i := 0) rfl
  replace y := y.mono a5
  replace ad : Mem ⟨w, h, noX⟩ ak [] [] [⟨k, g.length, l, 3, 1, p, (p : List Value).length⟩] be := ad
  have a7 : RepS ak k l g := ⟨_, y, a8, ac.rowCap (i := 0) rfl⟩
  obtain rfl := Option.some.inj H
  exact rt (.one (.c (.slice k g.length l))) a3 ad ⟨_, _, rfl, a7⟩
end Go.Proofs.Ytkbphdjemgibnaa
