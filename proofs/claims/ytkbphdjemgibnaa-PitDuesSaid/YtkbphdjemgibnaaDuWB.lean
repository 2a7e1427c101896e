/- Each call computes its plain function. -/
import Derived.Test.YtkbphdjemgibnaaProg
import Derived.Test.YtkbphdjemgibnaaDuP0
import Derived.Test.YtkbphdjemgibnaaDuWA
set_option linter.all false
namespace Go.Proofs.Ytkbphdjemgibnaa
open Go Go.RowKit
open Rep (rep)
open KRep (kv)
open VRep (rv)
abbrev K29c1 (w_ : Wear) : List SC := [.int .i64 w_.miles.lo, .int .i64 w_.miles.hi, .int .i64 w_.daily.lo, .int .i64 w_.daily.hi, .int .i64 w_.age, .int .i64 w_.far, .int .i64 w_.long]
set_option maxRecDepth 100000 in
set_option maxHeartbeats 4000000 in
theorem law_Wear_ok (n : Nat) {h : Heap} {w : World} (hh : Has h w) (w_ : Wear) {cs_w_ : List Value} (hx_w_ : rep h w_ cs_w_) {r : Wear} (H : law_Wear n w_ = some r) :
  Calls Try.prog 29 #[.agg cs_w_.toArray] w (Ret (fun h v => ∃ cs, v = .agg cs.toArray ∧ rep h r cs) h w) := by
 obtain ⟨_, _, rfl, ⟨_, _, rfl, rfl, rfl⟩, ⟨_, _, rfl, ⟨_, _, rfl, rfl, rfl⟩, ⟨_, _, rfl, rfl, ⟨_, _, rfl, rfl, rfl⟩⟩⟩⟩ := hx_w_
 refine enter 24 [.agg (K29c1 w_)] Try.func29 rfl rfl rfl rfl fun t hk => ?_
 have hm := Mem.begin h w hh
 unfold law_Wear at H
 refine wp_seq (wp_region_from (wl fun K hK => ?_))
 refine wb (.agg (K29c1 w_)) hk hm fun a p s (j : Kn 24 [(a, 0)] [(tP 1 0 0), (tA 0 (K29c1 w_))] p) (m : Mem ⟨w, h, noX⟩ h [(a, 0)] [⟨(K29c1 w_), some 48⟩] [] s) => hK _ _ ?_
 refine wl fun K hK => ?_
 refine wa [.int .i64 0, .int .i64 0, .int .i64 0, .int .i64 0, .int .i64 0, .int .i64 0, .int .i64 0] j m fun b d u (k : Kn 24 [(a, 0), (b, 0)] [(tP 2 1 0), (tP 1 0 0), (tA 0 (K29c1 w_))] d) (c : Mem ⟨w, h, noX⟩ h [(a, 0), (b, 0)] [⟨(K29c1 w_), some 48⟩, ⟨[.int .i64 0, .int .i64 0, .int .i64 0, .int .i64 0, .int .i64 0, .int .i64 0, .int .i64 0], some 53⟩] [] u) => hK _ _ ?_
 have e : Kn 24 [(a, 0), (b, 0)] [(tP 2 1 0), (tP 1 0 0)] d := k.kp
 refine wf (wp_seq (wp_region_from (Rk 0 21 [(tA 23 (K29c1 w_)), (tP 2 1 0)] e c fun o f => ?_)))
 refine wl fun K hK => ?_
 refine wst 1 0 (.agg (K29c1 w_)) (K29c1 w_) f c fun q g (l : Mem ⟨w, h, noX⟩ h [(a, 0), (b, 0)] [⟨(K29c1 w_), some 48⟩, ⟨(K29c1 w_), some 53⟩] [] q) => hK _ _ ?_
 have i : Kn 24 [(a, 0), (b, 0)] [(tP 2 1 0)] o := g.kp
 refine wf (wp_ret ?_)
 obtain rfl := Option.some.inj H
 exact rt (.one (.agg (K29c1 w_))) i l ⟨_, rfl, ((rep_pair (rep_pair rep_int rep_int) (rep_pair (rep_pair rep_int rep_int) (rep_pair rep_int (rep_pair rep_int rep_int)))) : rep h (w_ : Wear) _)⟩
set_option maxRecDepth 100000 in
set_option maxHeartbeats 4000000 in
theorem law_list_ok (n : Nat) {h : Heap} {w : World} (hh : Has h w) (l : List Int) {a_l : Option Addr} {c_l : Nat} (hr_l : RepS h a_l c_l l) {r : List Int} (H : law_list n l = some r) :
  Calls Try.prog 31 #[.slice a_l l.length c_l] w (Ret (fun h v => ∃ a c, v = .slice a r.length c ∧ RepS h a c r) h w) := by
 refine enter 6 [.c (.slice a_l l.length c_l)] Try.func31 rfl rfl rfl rfl fun t hk => ?_
 have hm := Mem.begin h w hh
 unfold law_list at H
 refine wp_seq (wp_region_from (Rk 0 1 [(tS 0 a_l l.length c_l)] hk hm fun am aa => ?_))
 refine wf (wp_seq (wp_region_from (wl fun K hK => ?_)))
 refine wS 3 1 [] aa hm fun f ak al (ad : Kn 6 [] [(tS 3 f 0 0), (tS 0 a_l l.length c_l)] ak) (o : Mem ⟨w, h, noX⟩ h [] [] [⟨f, 0, 0, 3, 1, ([] : List Value), 0⟩] al) => ?_
 have x : Cells h ([] : List Int) ([] : List Value) := Cells.nil
 refine hK _ _ ?_
 refine Rk 1 1 [(tS 4 a_l l.length c_l), (tS 3 f 0 0)] ad o fun ao z => ?_
 obtain ⟨e, g, ai, _⟩ := id hr_l
 obtain ⟨x5, ex5, H⟩ := bnd H
 obtain ⟨p, ae⟩ := app_some ex5
 refine wl fun K hK => ?_
 refine wp_append 0 8 l.length _ (x5.length) _ e z o rfl rfl (by decide) rfl (by rfl) (by kernel_rfl) (by rfl) (by rfl) (Cells.len g) (ai.cell o.has g.one) g.one (by rw [p]; simp <;> omega) (by rw [p]; exact ae) (by decide) fun b d q aj u y (ab : Kn 6 [] [(tS 5 b x5.length d), (tS 4 a_l l.length c_l), (tS 3 f 0 0)] aj) (k : Mem ⟨w, h, noX⟩ h [] [] [⟨b, x5.length, d, 3, 1, (([] : List Value) ++ e), q⟩] u) => ?_
 have j : Cells h x5 (([] : List Value) ++ e) := by rw [p]; exact Cells.append x g
 obtain rfl : q = 0 := Nat.le_zero.1 y
 refine hK _ _ ?_
 refine Rk 3 1 [(tS 2 b x5.length d)] ab k fun an ac => ?_
 refine wf (wp_ret ?_)
 obtain ⟨s, af, ah, m⟩ := k.settle (i := 0) rfl
 replace j := j.mono af
 replace m : Mem ⟨w, h, noX⟩ s [] [] [⟨b, x5.length, d, 3, 1, (([] : List Value) ++ e), ((([] : List Value) ++ e) : List Value).length⟩] u := m
 have ag : RepS s b d x5 := ⟨_, j, ah, k.rowCap (i := 0) rfl⟩
 obtain rfl := Option.some.inj H
 exact rt (.one (.c (.slice b x5.length d))) ac m ⟨_, _, rfl, ag⟩
set_option maxRecDepth 100000 in
set_option maxHeartbeats 4000000 in
theorem ref_span_ok (n : Nat) {h : Heap} {w : World} (hh : Has h w) (r_ : Rg) {cs_r_ : List Value} (hx_r_ : rep h r_ cs_r_) (most : Int) {r : Bool} (H : ref_span n r_ most = some r) :
  Calls Try.prog 68 #[.agg cs_r_.toArray, .int .i64 most] w (Ret (fun h v => v = .bool r) h w) := by
 obtain ⟨_, _, rfl, rfl, rfl⟩ := hx_r_
 refine enter 16 [.agg [.int .i64 r_.lo, .int .i64 r_.hi], .c (.int .i64 most)] Try.func68 rfl rfl rfl rfl fun t hk => ?_
 have hm := Mem.begin h w hh
 unfold ref_span at H
 refine wp_seq (wp_region_from (wl fun K hK => ?_))
 refine wb (.agg [.int .i64 r_.lo, .int .i64 r_.hi]) hk hm fun a x y (p : Kn 16 [(a, 0)] [(tP 2 0 0), (tA 0 [.int .i64 r_.lo, .int .i64 r_.hi]), (tI 1 most)] x) (e : Mem ⟨w, h, noX⟩ h [(a, 0)] [⟨[.int .i64 r_.lo, .int .i64 r_.hi], some 46⟩] [] y) => hK _ _ ?_
 refine Rk 1 1 [(tP 2 0 0), (tI 1 most)] p e fun ad q => ?_
 refine wf (wp_seq (wp_region_from (Rk 0 4 [(tI 8 r_.hi), (tI 6 r_.lo), (tP 2 0 0), (tI 1 most)] q e fun ae s => ?_)))
 obtain ⟨x9, ex9, H⟩ := bnd H
 refine wl fun K hK => ?_
 refine wc [.c (.int .i64 r_.lo), .c (.int .i64 0), .c (.int .i64 r_.hi)] s e (ref_In_ok n e.has r_.lo 0 r_.hi ex9) fun af z ag i aa d => ?_
 obtain rfl := i
 refine ⟨.one (.c (.bool x9)), rfl, fun u (j : Kn 16 [(a, 0)] [(tB 9 x9), (tI 8 r_.hi), (tI 6 r_.lo), (tP 2 0 0), (tI 1 most)] u) => hK _ _ ?_⟩
 refine Rk 5 1 [(tB 10 x9), (tP 2 0 0), (tI 1 most)] j d fun g f => ?_
 rcases Bool.eq_false_or_eq_true (x9) with b | b
 ·
  rw [b, cond_true] at H
  have k : Kn 16 [(a, 0)] [(tB 10 true), (tP 2 0 0), (tI 1 most)] g := (f.setB 10 true (by rfl) b).kp
  refine Rk 6 6 [(tB 4 (decide (r_.hi ≤ most)))] k d fun ab l => ?_
  refine wf (wp_ret ?_)
  obtain rfl := Option.some.inj H
  exact rt (.one (.c (.bool (decide (r_.hi ≤ most))))) l d rfl
 ·
  rw [b, cond_false] at H
  have m : Kn 16 [(a, 0)] [(tB 10 false), (tP 2 0 0), (tI 1 most)] g := (f.setB 10 false (by rfl) b).kp
  refine Rk 6 6 [(tB 4 false)] m d fun ac o => ?_
  refine wf (wp_ret ?_)
  obtain rfl := Option.some.inj H
  exact rt (.one (.c (.bool false))) o d rfl
abbrev K32c1 (w_ : Wear) : List SC := [.int .i64 w_.miles.lo, .int .i64 w_.miles.hi, .int .i64 w_.daily.lo, .int .i64 w_.daily.hi, .int .i64 w_.age, .int .i64 w_.far, .int .i64 w_.long]
set_option maxRecDepth 100000 in
set_option maxHeartbeats 4000000 in
theorem ref_RightWear_ok (n : Nat) {h : Heap} {w : World} (hh : Has h w) (w_ : Wear) {cs_w_ : List Value} (hx_w_ : rep h w_ cs_w_) {r : Bool} (H : ref_RightWear n w_ = some r) :
  Calls Try.prog 32 #[.agg cs_w_.toArray] w (Ret (fun h v => v = .bool r) h w) := by
 obtain ⟨_, _, rfl, ⟨_, _, rfl, rfl, rfl⟩, ⟨_, _, rfl, ⟨_, _, rfl, rfl, rfl⟩, ⟨_, _, rfl, rfl, ⟨_, _, rfl, rfl, rfl⟩⟩⟩⟩ := hx_w_
 refine enter 26 [.agg (K32c1 w_)] Try.func32 rfl rfl rfl rfl fun t hk => ?_
 have hm := Mem.begin h w hh
 unfold ref_RightWear at H
 refine wp_seq (wp_region_from (wl fun K hK => ?_))
 refine wb (.agg (K32c1 w_)) hk hm fun a a8 bd (ao : Kn 26 [(a, 0)] [(tP 1 0 0), (tA 0 (K32c1 w_))] a8) (l : Mem ⟨w, h, noX⟩ h [(a, 0)] [⟨(K32c1 w_), some 48⟩] [] bd) => hK _ _ ?_
 refine Rk 1 1 [(tP 1 0 0)] ao l fun bq av => ?_
 refine wf (wp_seq (wp_region_from (Rk 0 2 [(tA 4 [.int .i64 w_.miles.lo, .int .i64 w_.miles.hi]), (tP 1 0 0)] av l fun bu a6 => ?_)))
 obtain ⟨x5, ex5, H⟩ := bnd H
 refine wl fun K hK => ?_
 refine wc [.agg [.int .i64 w_.miles.lo, .int .i64 w_.miles.hi], .c (.int .i64 100000)] a6 l (ref_span_ok n l.has w_.miles ((rep_pair rep_int rep_int) : rep h w_.miles _) 100000 ex5) fun bz aj b4 ae bi b => ?_
 obtain rfl := ae
 refine ⟨.one (.c (.bool x5)), rfl, fun a7 (ak : Kn 26 [(a, 0)] [(tB 5 x5), (tA 4 [.int .i64 w_.miles.lo, .int .i64 w_.miles.hi]), (tP 1 0 0)] a7) => hK _ _ ?_⟩
 refine Rk 3 1 [(tB 6 x5), (tP 1 0 0)] ak b fun aa m => ?_
 rcases Bool.eq_false_or_eq_true (x5) with g | g
 ·
  rw [g, cond_true] at H
  have al : Kn 26 [(a, 0)] [(tB 6 true), (tP 1 0 0)] aa := (m.setB 6 true (by rfl) g).kp
  refine Rk 4 2 [(tA 8 [.int .i64 w_.daily.lo, .int .i64 w_.daily.hi]), (tB 6 true), (tP 1 0 0)] al b fun bn o => ?_
  obtain ⟨x9, ex9, H⟩ := bnd H
  refine wpFrom_loud _ rfl (wantedS_sound o (by kernel_rfl)) fun K hK => ?_
  refine wc [.agg [.int .i64 w_.daily.lo, .int .i64 w_.daily.hi], .c (.int .i64 1000)] o b (ref_span_ok n b.has w_.daily ((rep_pair rep_int rep_int) : rep aj w_.daily _) 1000 ex9) fun b0 be b5 af bj d => ?_
  obtain rfl := af
  refine ⟨.one (.c (.bool x9)), rfl, fun a9 (am : Kn 26 [(a, 0)] [(tB 9 x9), (tA 8 [.int .i64 w_.daily.lo, .int .i64 w_.daily.hi]), (tB 6 true), (tP 1 0 0)] a9) => hK _ _ ?_⟩
  refine Rk 7 2 [(tB 11 x9), (tP 1 0 0)] am d fun ab p => ?_
  rcases Bool.eq_false_or_eq_true (x9) with i | i
  ·
   rw [i, cond_true] at H
   have an : Kn 26 [(a, 0)] [(tB 11 true), (tP 1 0 0)] ab := (p.setB 11 true (by rfl) i).kp
   refine Rk 9 2 [(tI 13 w_.age), (tB 11 true), (tP 1 0 0)] an d fun bo q => ?_
   obtain ⟨x14, ex14, H⟩ := bnd H
   refine wpFrom_loud _ rfl (wantedS_sound q (by kernel_rfl)) fun K hK => ?_
   refine wc [.c (.int .i64 w_.age), .c (.int .i64 0), .c (.int .i64 1000)] q d (ref_In_ok n d.has w_.age 0 1000 ex14) fun b1 bf b6 ag bk e => ?_
   obtain rfl := ag
   refine ⟨.one (.c (.bool x14)), rfl, fun ba (ap : Kn 26 [(a, 0)] [(tB 14 x14), (tI 13 w_.age), (tB 11 true), (tP 1 0 0)] ba) => hK _ _ ?_⟩
   refine Rk 12 2 [(tB 16 x14), (tP 1 0 0)] ap e fun ac s => ?_
   rcases Bool.eq_false_or_eq_true (x14) with j | j
   ·
    rw [j, cond_true] at H
    have aq : Kn 26 [(a, 0)] [(tB 16 true), (tP 1 0 0)] ac := (s.setB 16 true (by rfl) j).kp
    refine Rk 14 2 [(tI 18 w_.far), (tB 16 true), (tP 1 0 0)] aq e fun bp u => ?_
    obtain ⟨x19, ex19, H⟩ := bnd H
    refine wpFrom_loud _ rfl (wantedS_sound u (by kernel_rfl)) fun K hK => ?_
    refine wc [.c (.int .i64 w_.far), .c (.int .i64 1), .c (.int .i64 100000)] u e (ref_In_ok n e.has w_.far 1 100000 ex19) fun b2 bg b7 ah bl f => ?_
    obtain rfl := ah
    refine ⟨.one (.c (.bool x19)), rfl, fun bb (ar : Kn 26 [(a, 0)] [(tB 19 x19), (tI 18 w_.far), (tB 16 true), (tP 1 0 0)] bb) => hK _ _ ?_⟩
    refine Rk 17 2 [(tB 21 x19), (tP 1 0 0)] ar f fun ad x => ?_
    rcases Bool.eq_false_or_eq_true (x19) with k | k
    ·
     rw [k, cond_true] at H
     have au : Kn 26 [(a, 0)] [(tB 21 true), (tP 1 0 0)] ad := (x.setB 21 true (by rfl) k).kp
     refine Rk 19 2 [(tI 23 w_.long), (tB 21 true)] au f fun br y => ?_
     obtain ⟨x24, ex24, H⟩ := bnd H
     refine wpFrom_loud _ rfl (wantedS_sound y (by kernel_rfl)) fun K hK => ?_
     refine wc [.c (.int .i64 w_.long), .c (.int .i64 1), .c (.int .i64 1000)] y f (ref_In_ok n f.has w_.long 1 1000 ex24) fun b3 bh b8 ai bm z => ?_
     obtain rfl := ai
     refine ⟨.one (.c (.bool x24)), rfl, fun bc (aw : Kn 26 [(a, 0)] [(tB 24 x24), (tI 23 w_.long), (tB 21 true)] bc) => hK _ _ ?_⟩
     refine Rk 22 2 [(tB 2 x24)] aw z fun bs ax => ?_
     refine wf (wp_ret ?_)
     obtain rfl := Option.some.inj H
     exact rt (.one (.c (.bool x24))) ax z rfl
    ·
     rw [k, cond_false] at H
     have ay : Kn 26 [(a, 0)] [(tB 21 false), (tP 1 0 0)] ad := (x.setB 21 false (by rfl) k).kp
     refine Rk 19 5 [(tB 2 false)] ay f fun bt az => ?_
     refine wf (wp_ret ?_)
     obtain rfl := Option.some.inj H
     exact rt (.one (.c (.bool false))) az f rfl
   ·
    rw [j, cond_false] at H
    have a0 : Kn 26 [(a, 0)] [(tB 16 false), (tP 1 0 0)] ac := (s.setB 16 false (by rfl) j).kp
    refine Rk 14 10 [(tB 2 false)] a0 e fun bv a1 => ?_
    refine wf (wp_ret ?_)
    obtain rfl := Option.some.inj H
    exact rt (.one (.c (.bool false))) a1 e rfl
  ·
   rw [i, cond_false] at H
   have a2 : Kn 26 [(a, 0)] [(tB 11 false), (tP 1 0 0)] ab := (p.setB 11 false (by rfl) i).kp
   refine Rk 9 15 [(tB 2 false)] a2 d fun bw a3 => ?_
   refine wf (wp_ret ?_)
   obtain rfl := Option.some.inj H
   exact rt (.one (.c (.bool false))) a3 d rfl
 ·
  rw [g, cond_false] at H
  have a4 : Kn 26 [(a, 0)] [(tB 6 false), (tP 1 0 0)] aa := (m.setB 6 false (by rfl) g).kp
  refine Rk 4 20 [(tB 2 false)] a4 b fun bx a5 => ?_
  refine wf (wp_ret ?_)
  obtain rfl := Option.some.inj H
  exact rt (.one (.c (.bool false))) a5 b rfl
abbrev K33c1 (w_ : Wear) : List SC := [.int .i64 w_.miles.lo, .int .i64 w_.miles.hi, .int .i64 w_.daily.lo, .int .i64 w_.daily.hi, .int .i64 w_.age, .int .i64 w_.far, .int .i64 w_.long]
abbrev K33m2 (miles daily : Int) : TM := [(tP 3 0 0), (tI 1 miles), (tI 2 daily)]
set_option maxRecDepth 100000 in
set_option maxHeartbeats 4000000 in
theorem ref_First_ok (n : Nat) {h : Heap} {w : World} (hh : Has h w) (w_ : Wear) {cs_w_ : List Value} (hx_w_ : rep h w_ cs_w_) (miles : Int) (daily : Int) {r : Int} (H : ref_First n w_ miles daily = some r) :
  Calls Try.prog 33 #[.agg cs_w_.toArray, .int .i64 miles, .int .i64 daily] w (Ret (fun h v => v = .int .i64 r) h w) := by
 obtain ⟨_, _, rfl, ⟨_, _, rfl, rfl, rfl⟩, ⟨_, _, rfl, ⟨_, _, rfl, rfl, rfl⟩, ⟨_, _, rfl, rfl, ⟨_, _, rfl, rfl, rfl⟩⟩⟩⟩ := hx_w_
 refine enter 29 [.agg (K33c1 w_), .c (.int .i64 miles), .c (.int .i64 daily)] Try.func33 rfl rfl rfl rfl fun t hk => ?_
 have hm := Mem.begin h w hh
 unfold ref_First at H
 refine wp_seq (wp_region_from (wl fun K hK => ?_))
 refine wb (.agg (K33c1 w_)) hk hm fun d am an (ag : Kn 29 [(d, 0)] [(tP 3 0 0), (tA 0 (K33c1 w_)), (tI 1 miles), (tI 2 daily)] am) (q : Mem ⟨w, h, noX⟩ h [(d, 0)] [⟨(K33c1 w_), some 48⟩] [] an) => hK _ _ ?_
 refine Rk 1 1 (K33m2 miles daily) ag q fun aw aj => ?_
 refine wf (wp_seq (wp_region_from (Rk 0 1 ((tI 7 0) :: (K33m2 miles daily)) aj q fun ax ak => ?_)))
 refine wf (wp_seq ?_)
 obtain ⟨i, x, H⟩ := bnd H
 refine wp_mid' (fun a' w' => ∃ (s : Array Value) (j : Heap), a' = ⟨s, []⟩ ∧ Kn 29 [(d, 0)] [(tI 7 i)] s ∧ Mem ⟨w, h, noX⟩ j [(d, 0)] [⟨(K33c1 w_), some 48⟩] [] w' ∧ Heap.le h j) ?_ ?_
 ·
  refine wp_block ?_
  refine wp_loop_n (fun al a' w' => ∃ (x_v10 : Int) (u : Array Value) (k : Heap), a' = ⟨u, []⟩ ∧ Kn 29 [(d, 0)] ((tI 7 x_v10) :: (K33m2 miles daily)) u ∧ Mem ⟨w, h, noX⟩ k [(d, 0)] [⟨(K33c1 w_), some 48⟩] [] w' ∧ Heap.le h k ∧ ref_First_l1 al w_ miles daily x_v10 = some i) n ?_ ?_
  ·
   exact Exists.intro 0 ⟨_, _, rfl, ak.kp, q, (Heap.le_refl _), x⟩
  ·
   rintro g _ ay ⟨x_v10, u, k, rfl, ab, b, f, a⟩
   clear x
   obtain _ | g := g
   ·
    rw [ref_First_l1] at a; cases a
   rw [ref_First_l1] at a
   refine wp_seq (wp_seq (wp_region_from (Rk 0 9 ((tB 16 (decide ((IntKind.i64.wrap (miles + (IntKind.i64.wrap (x_v10 * daily)))) ≥ w_.far))) :: (tI 7 x_v10) :: (K33m2 miles daily)) ab b fun aa y => ?_)))
   rcases Bool.eq_false_or_eq_true (decide ((IntKind.i64.wrap (miles + (IntKind.i64.wrap (x_v10 * daily)))) ≥ w_.far)) with e | e
   ·
    rw [e, cond_true] at a
    have ac : Kn 29 [(d, 0)] ((tB 16 true) :: (tI 7 x_v10) :: (K33m2 miles daily)) aa := (y.setB 16 true (by rfl) e).kp
    refine Rk 9 9 ((tB 25 (!true)) :: (tI 7 x_v10) :: (K33m2 miles daily)) ac b fun ap o => ?_
    refine wf (wC ((!true)) o (fun l => ?_) (fun l => ?_))
    ·
     rw [l, cond_true] at a
     refine wp_skip (wp_block (wp_region_from (Rk 0 3 ((tI 7 (IntKind.i64.wrap (x_v10 + 1))) :: (K33m2 miles daily)) o b fun aq ad => ?_)))
     refine wf ?_
     exact Exists.intro g ⟨Nat.lt_succ_self _, Exists.intro (IntKind.i64.wrap (x_v10 + 1)) ⟨_, _, rfl, ad.kp, b, f, a⟩⟩
    ·
     rw [l, cond_false] at a
     refine wp_exit ?_
     obtain rfl := Option.some.inj a
     exact Exists.intro _ ⟨_, rfl, o.kp, b, f⟩
   ·
    rw [e, cond_false] at a
    have ae : Kn 29 [(d, 0)] ((tB 16 false) :: (tI 7 x_v10) :: (K33m2 miles daily)) aa := (y.setB 16 false (by rfl) e).kp
    refine Rk 9 9 ((tB 25 (!(decide ((IntKind.i64.wrap (w_.age + x_v10)) ≥ w_.long)))) :: (tI 7 x_v10) :: (K33m2 miles daily)) ae b fun ar p => ?_
    refine wf (wC ((!(decide ((IntKind.i64.wrap (w_.age + x_v10)) ≥ w_.long)))) p (fun m => ?_) (fun m => ?_))
    ·
     rw [m, cond_true] at a
     refine wp_skip (wp_block (wp_region_from (Rk 0 3 ((tI 7 (IntKind.i64.wrap (x_v10 + 1))) :: (K33m2 miles daily)) p b fun au af => ?_)))
     refine wf ?_
     exact Exists.intro g ⟨Nat.lt_succ_self _, Exists.intro (IntKind.i64.wrap (x_v10 + 1)) ⟨_, _, rfl, af.kp, b, f, a⟩⟩
    ·
     rw [m, cond_false] at a
     refine wp_exit ?_
     obtain rfl := Option.some.inj a
     exact Exists.intro _ ⟨_, rfl, p.kp, b, f⟩
 ·
  rintro _ az ⟨s, j, rfl, ah, z, ao⟩
  refine wp_seq (wp_region_from (Rk 0 2 [(tI 6 i)] ah z fun av ai => ?_))
  refine wf (wp_ret ?_)
  obtain rfl := Option.some.inj H
  exact rt (.one (.c (.int .i64 i))) ai z rfl
abbrev K34c1 (w_ : Wear) : List SC := [.int .i64 w_.miles.lo, .int .i64 w_.miles.hi, .int .i64 w_.daily.lo, .int .i64 w_.daily.hi, .int .i64 w_.age, .int .i64 w_.far, .int .i64 w_.long]
abbrev K34m2 (miles : Int) (a_daily : Option Addr) (daily : List Int) (c_daily : Nat) : TM := [(tP 3 0 0), (tI 1 miles), (tS 2 a_daily daily.length c_daily)]
set_option maxRecDepth 100000 in
set_option maxHeartbeats 4000000 in
theorem ref_IsTruth_ok (n : Nat) {h : Heap} {w : World} (hh : Has h w) (w_ : Wear) {cs_w_ : List Value} (hx_w_ : rep h w_ cs_w_) (miles : Int) (daily : List Int) {a_daily : Option Addr} {c_daily : Nat} (hr_daily : RepS h a_daily c_daily daily) {r : Bool} (H : ref_IsTruth n w_ miles daily = some r) :
  Calls Try.prog 34 #[.agg cs_w_.toArray, .int .i64 miles, .slice a_daily daily.length c_daily] w (Ret (fun h v => v = .bool r) h w) := by
 obtain ⟨_, _, rfl, ⟨_, _, rfl, rfl, rfl⟩, ⟨_, _, rfl, ⟨_, _, rfl, rfl, rfl⟩, ⟨_, _, rfl, rfl, ⟨_, _, rfl, rfl, rfl⟩⟩⟩⟩ := hx_w_
 refine enter 39 [.agg (K34c1 w_), .c (.int .i64 miles), .c (.slice a_daily daily.length c_daily)] Try.func34 rfl rfl rfl rfl fun t hk => ?_
 have hm := Mem.begin h w hh
 unfold ref_IsTruth at H
 refine wp_seq (wp_region_from (wl fun K hK => ?_))
 refine wb (.agg (K34c1 w_)) hk hm fun b bb bg (ao : Kn 39 [(b, 0)] [(tP 3 0 0), (tA 0 (K34c1 w_)), (tI 1 miles), (tS 2 a_daily daily.length c_daily)] bb) (y : Mem ⟨w, h, noX⟩ h [(b, 0)] [⟨(K34c1 w_), some 48⟩] [] bg) => hK _ _ ?_
 refine Rk 1 1 (K34m2 miles a_daily daily c_daily) ao y fun bs ay => ?_
 refine wf (wp_seq (wp_seq (wp_region_from (Rk 0 1 ((tI 7 0) :: (K34m2 miles a_daily daily c_daily)) ay y fun bv a4 => ?_))))
 refine wf ?_
 obtain ⟨af, ad, H⟩ := bnd H
 refine wp_mid' (fun a' w' => ∃ (ag : Unit) (ab : Array Value) (m : Heap), a' = ⟨ab, []⟩ ∧ Kn 39 [(b, 0)] (K34m2 miles a_daily daily c_daily) ab ∧ Mem ⟨w, h, noX⟩ m [(b, 0)] [⟨(K34c1 w_), some 48⟩] [] w' ∧ Heap.le h m ∧ af = .go ag) ?_ ?_
 ·
  refine wp_block ?_
  refine wp_loop_n (fun ba a' w' => ∃ (x_v10 : Int) (ac : Array Value) (i : Heap), a' = ⟨ac, []⟩ ∧ Kn 39 [(b, 0)] ((tI 7 x_v10) :: (K34m2 miles a_daily daily c_daily)) ac ∧ Mem ⟨w, h, noX⟩ i [(b, 0)] [⟨(K34c1 w_), some 48⟩] [] w' ∧ Heap.le h i ∧ ref_IsTruth_l1 ba w_ daily x_v10 = some af) n ?_ ?_
  ·
   exact Exists.intro 0 ⟨_, _, rfl, a4.kp, y, (Heap.le_refl _), ad⟩
  ·
   rintro k _ bf ⟨x_v10, ac, i, rfl, am, d, u, a⟩
   clear ad
   obtain _ | k := k
   ·
    rw [ref_IsTruth_l1] at a; cases a
   rw [ref_IsTruth_l1] at a
   replace hr_daily := hr_daily.mono u
   refine wp_seq (wp_seq (wp_region_from (Rk 0 4 ((tB 11 (decide (x_v10 < ((daily.length : Nat) : Int)))) :: (tI 7 x_v10) :: (K34m2 miles a_daily daily c_daily)) am d fun bm q => ?_)))
   refine wf (wC (decide (x_v10 < ((daily.length : Nat) : Int))) q (fun o => ?_) (fun o => ?_))
   ·
    rw [o, cond_true] at a
    refine wp_skip (wp_seq (wp_block (wp_seq (wp_region_G (by kernel_rfl) ?_))))
    replace d := d.drew
    refine wpG_of_D [] [(b, 0)] [⟨(K34c1 w_), some 48⟩] ?_
    refine Dr [0, 1] [1, 0] ((tI 15 x_v10) :: (tS 14 a_daily daily.length c_daily) :: (tI 7 x_v10) :: (K34m2 miles a_daily daily c_daily)) q d fun bn an => ?_
    obtain ⟨x16, ex16, a⟩ := bnd a
    obtain ⟨a6, a7, a9⟩ := idx_some ex16
    obtain ⟨l, aa, bh, ak, a8, al⟩ := hr_daily.get (by decide) a9
    obtain rfl := a8
    have x : Mem ⟨w, h, noX⟩ i [(b, 0), (l, aa + (x_v10 : Int).toNat * 1)] [⟨(K34c1 w_), some 48⟩, ⟨[.int .i64 x16], none⟩] [] (World.drew bf) := d.addPlc (cs := [.int .i64 x16]) (fun j c hj => al j _ (map_get hj)) rfl (by kernel_rfl) (by kernel_rfl)
    refine D_index 2 (x_v10) [.int .i64 x16] (fun _ _ _ _ _ h => h) rfl rfl (rfl) rfl (by decide) (by kernel_rfl) (by kernel_rfl) an d.plOk (by rfl) (by rfl) (by rfl) ak (by rfl) a6 a7 (by kernel_rfl) fun bc (ap : Kn 39 [(b, 0), (l, aa + (x_v10 : Int).toNat * 1)] ((tP 16 1 0) :: (tI 15 x_v10) :: (tS 14 a_daily daily.length c_daily) :: (tI 7 x_v10) :: (K34m2 miles a_daily daily c_daily)) bc) => ?_
    refine Dr [3, 4, 5, 6, 7, 8, 9] (dn 9) ((tI 23 w_.daily.hi) :: (tI 20 w_.daily.lo) :: (tI 17 x16) :: (tI 7 x_v10) :: (K34m2 miles a_daily daily c_daily)) ap x fun bo aq => ?_
    obtain ⟨x24, ex24, a⟩ := bnd a
    refine Dl 10 fun K hK => ?_
    refine wc [.c (.int .i64 x16), .c (.int .i64 w_.daily.lo), .c (.int .i64 w_.daily.hi)] aq x (ref_In_ok k x.has x16 w_.daily.lo w_.daily.hi ex24) fun bx bi b0 ai a5 e => ?_
    obtain rfl := ai
    refine ⟨.one (.c (.bool x24)), rfl, fun bd (ar : Kn 39 [(b, 0), (l, aa + (x_v10 : Int).toNat * 1)] ((tB 24 x24) :: (tI 23 w_.daily.hi) :: (tI 20 w_.daily.lo) :: (tI 17 x16) :: (tI 7 x_v10) :: (K34m2 miles a_daily daily c_daily)) bd) => hK _ _ e.plOk ?_⟩
    refine Dr [11] (dn 11) ((tB 25 (!x24)) :: (tI 7 x_v10) :: (K34m2 miles a_daily daily c_daily)) ar e fun bp s => ?_
    refine wpD_end (by kernel_rfl) (wC ((!x24)) s (fun p => ?_) (fun p => ?_))
    ·
     rw [p, cond_true] at a
     refine wp_seq (wp_region_from (Rk 0 1 [(tB 6 false)] s e fun bq au => ?_))
     refine wf (wp_ret ?_)
     obtain rfl := Option.some.inj a
     obtain rfl := Option.some.inj H
     exact rt (.one (.c (.bool false))) au e rfl
    ·
     rw [p, cond_false] at a
     refine wp_skip (wp_region_from (Rk 0 3 ((tI 7 (IntKind.i64.wrap (x_v10 + 1))) :: (K34m2 miles a_daily daily c_daily)) s e fun br av => ?_))
     refine wf ?_
     exact Exists.intro k ⟨Nat.lt_succ_self _, Exists.intro (IntKind.i64.wrap (x_v10 + 1)) ⟨_, _, rfl, ((av.keep [7, 3, 1, 2] (by rfl)).cut 1 (by kernel_rfl)), (e.cutPl 1 (by kernel_rfl)), (Heap.le_trans u a5), a⟩⟩
   ·
    rw [o, cond_false] at a
    refine wp_exit ?_
    obtain rfl := Option.some.inj a
    exact Exists.intro () ⟨_, _, rfl, q.kp, d, u, rfl⟩
 ·
  rintro _ b1 ⟨ag, ab, m, rfl, aw, z, bk, rfl⟩
  rw [Ex.bind_go] at H
  refine wp_seq (wp_region_from (Rk 0 7 [(tI 32 w_.miles.hi), (tI 29 w_.miles.lo), (tI 26 miles), (tS 2 a_daily daily.length c_daily)] aw z fun bt ax => ?_))
  obtain ⟨x33, ex33, H⟩ := bnd H
  refine wl fun K hK => ?_
  refine wc [.c (.int .i64 miles), .c (.int .i64 w_.miles.lo), .c (.int .i64 w_.miles.hi)] ax z (ref_In_ok n z.has miles w_.miles.lo w_.miles.hi ex33) fun bz bj b2 aj bl g => ?_
  obtain rfl := aj
  refine ⟨.one (.c (.bool x33)), rfl, fun be (az : Kn 39 [(b, 0)] [(tB 33 x33), (tI 32 w_.miles.hi), (tI 29 w_.miles.lo), (tI 26 miles), (tS 2 a_daily daily.length c_daily)] be) => hK _ _ ?_⟩
  refine Rk 8 1 [(tB 34 x33), (tS 2 a_daily daily.length c_daily)] az g fun ah ae => ?_
  rcases Bool.eq_false_or_eq_true (x33) with f | f
  ·
   rw [f, cond_true] at H
   have a0 : Kn 39 [(b, 0)] [(tB 34 true), (tS 2 a_daily daily.length c_daily)] ah := (ae.setB 34 true (by rfl) f).kp
   refine Rk 9 5 [(tB 6 (decide (((daily.length : Nat) : Int) ≤ 1000)))] a0 g fun bu a1 => ?_
   refine wf (wp_ret ?_)
   obtain rfl := Option.some.inj H
   exact rt (.one (.c (.bool (decide (((daily.length : Nat) : Int) ≤ 1000))))) a1 g rfl
  ·
   rw [f, cond_false] at H
   have a2 : Kn 39 [(b, 0)] [(tB 34 false), (tS 2 a_daily daily.length c_daily)] ah := (ae.setB 34 false (by rfl) f).kp
   refine Rk 9 5 [(tB 6 false)] a2 g fun bw a3 => ?_
   refine wf (wp_ret ?_)
   obtain rfl := Option.some.inj H
   exact rt (.one (.c (.bool false))) a3 g rfl
abbrev K35c1 (w_ : Wear) : List SC := [.int .i64 w_.miles.lo, .int .i64 w_.miles.hi, .int .i64 w_.daily.lo, .int .i64 w_.daily.hi, .int .i64 w_.age, .int .i64 w_.far, .int .i64 w_.long]
set_option maxRecDepth 100000 in
set_option maxHeartbeats 4000000 in
theorem ref_Over_ok (n : Nat) {h : Heap} {w : World} (hh : Has h w) (w_ : Wear) {cs_w_ : List Value} (hx_w_ : rep h w_ cs_w_) (miles : Int) (daily : List Int) {a_daily : Option Addr} {c_daily : Nat} (hr_daily : RepS h a_daily c_daily daily) {r : Bool} (H : ref_Over n w_ miles daily = some r) :
  Calls Try.prog 35 #[.agg cs_w_.toArray, .int .i64 miles, .slice a_daily daily.length c_daily] w (Ret (fun h v => v = .bool r) h w) := by
 obtain ⟨_, _, rfl, ⟨_, _, rfl, rfl, rfl⟩, ⟨_, _, rfl, ⟨_, _, rfl, rfl, rfl⟩, ⟨_, _, rfl, rfl, ⟨_, _, rfl, rfl, rfl⟩⟩⟩⟩ := hx_w_
 refine enter 34 [.agg (K35c1 w_), .c (.int .i64 miles), .c (.slice a_daily daily.length c_daily)] Try.func35 rfl rfl rfl rfl fun t hk => ?_
 have hm := Mem.begin h w hh
 unfold ref_Over at H
 refine wp_seq (wp_region_from (wl fun K hK => ?_))
 refine wb (.agg (K35c1 w_)) hk hm fun a az a2 (ah : Kn 34 [(a, 0)] [(tP 3 0 0), (tA 0 (K35c1 w_)), (tI 1 miles), (tS 2 a_daily daily.length c_daily)] az) (q : Mem ⟨w, h, noX⟩ h [(a, 0)] [⟨(K35c1 w_), some 48⟩] [] a2) => hK _ _ ?_
 refine Rk 1 1 [(tP 3 0 0), (tI 1 miles), (tS 2 a_daily daily.length c_daily)] ah q fun bb aq => ?_
 refine wf (wp_seq (wp_seq (wp_region_from (Rk 0 1 [(tI 7 0), (tP 3 0 0), (tI 1 miles), (tS 2 a_daily daily.length c_daily)] aq q fun bc ar => ?_))))
 refine wf ?_
 obtain ⟨i, z, H⟩ := bnd H
 refine wp_mid' (fun a' w' => ∃ (u : Array Value) (k : Heap), a' = ⟨u, []⟩ ∧ Kn 34 [(a, 0)] [(tP 3 0 0), (tI 1 i), (tS 2 a_daily daily.length c_daily)] u ∧ Mem ⟨w, h, noX⟩ k [(a, 0)] [⟨(K35c1 w_), some 48⟩] [] w' ∧ Heap.le h k) ?_ ?_
 ·
  refine wp_block ?_
  refine wp_loop_n (fun ay a' w' => ∃ (x_v10 : Int) (x_v11 : Int) (x : Array Value) (f : Heap), a' = ⟨x, []⟩ ∧ Kn 34 [(a, 0)] [(tI 7 x_v10), (tP 3 0 0), (tI 1 x_v11), (tS 2 a_daily daily.length c_daily)] x ∧ Mem ⟨w, h, noX⟩ f [(a, 0)] [⟨(K35c1 w_), some 48⟩] [] w' ∧ Heap.le h f ∧ ref_Over_l1 ay daily x_v10 x_v11 = some i) n ?_ ?_
  ·
   exact Exists.intro 0 ⟨miles, _, _, rfl, ar.kp, q, (Heap.le_refl _), z⟩
  ·
   rintro s _ a1 ⟨x_v10, x_v11, x, f, rfl, af, g, o, b⟩
   clear z
   obtain _ | s := s
   ·
    rw [ref_Over_l1] at b; cases b
   rw [ref_Over_l1] at b
   replace hr_daily := hr_daily.mono o
   refine wp_seq (wp_seq (wp_region_from (Rk 0 4 [(tB 11 (decide (x_v10 < ((daily.length : Nat) : Int)))), (tI 7 x_v10), (tP 3 0 0), (tI 1 x_v11), (tS 2 a_daily daily.length c_daily)] af g fun a5 m => ?_)))
   refine wf (wC (decide (x_v10 < ((daily.length : Nat) : Int))) m (fun l => ?_) (fun l => ?_))
   ·
    rw [l, cond_true] at b
    refine wp_skip (wp_seq (wp_block (wp_region_from (Rk 0 3 [(tI 16 x_v10), (tS 15 a_daily daily.length c_daily), (tI 14 x_v11), (tI 7 x_v10), (tP 3 0 0), (tS 2 a_daily daily.length c_daily)] m g fun a6 ag => ?_))))
    obtain ⟨x17, ex17, b⟩ := bnd b
    obtain ⟨au, av, ax⟩ := idx_some ex17
    obtain ⟨y, ab, a3, ad, aw, ae⟩ := hr_daily.get (by decide) ax
    obtain rfl := aw
    have p : Mem ⟨w, h, noX⟩ f [(a, 0), (y, ab + (x_v10 : Int).toNat * 1)] [⟨(K35c1 w_), some 48⟩, ⟨[.int .i64 x17], none⟩] [] a1 := g.addPlc (cs := [.int .i64 x17]) (fun j c hj => ae j _ (map_get hj)) rfl (by kernel_rfl) (by kernel_rfl)
    refine R_index 3 (x_v10) rfl rfl (rfl) rfl (by decide) ag (by rfl) (by rfl) (by rfl) ad (by rfl) au av (by kernel_rfl) fun a0 (ai : Kn 34 [(a, 0), (y, ab + (x_v10 : Int).toNat * 1)] [(tP 17 1 0), (tI 16 x_v10), (tS 15 a_daily daily.length c_daily), (tI 14 x_v11), (tI 7 x_v10), (tP 3 0 0), (tS 2 a_daily daily.length c_daily)] a0) => ?_
    refine Rk 4 3 [(tI 1 (IntKind.i64.wrap (x_v11 + x17))), (tI 7 x_v10), (tP 3 0 0), (tS 2 a_daily daily.length c_daily)] ai p fun a7 aj => ?_
    refine wf (wp_region_from (Rk 0 3 [(tI 7 (IntKind.i64.wrap (x_v10 + 1))), (tI 1 (IntKind.i64.wrap (x_v11 + x17))), (tP 3 0 0), (tS 2 a_daily daily.length c_daily)] aj p fun a8 ak => ?_))
    refine wf ?_
    exact Exists.intro s ⟨Nat.lt_succ_self _, Exists.intro (IntKind.i64.wrap (x_v10 + 1)) ⟨(IntKind.i64.wrap (x_v11 + x17)), _, _, rfl, ((ak.keep [7, 3, 1, 2] (by rfl)).cut 1 (by kernel_rfl)), (p.cutPl 1 (by kernel_rfl)), o, b⟩⟩
   ·
    rw [l, cond_false] at b
    refine wp_exit ?_
    obtain rfl := Option.some.inj b
    exact Exists.intro _ ⟨_, rfl, m.kp, g, o⟩
 ·
  rintro _ bd ⟨u, k, rfl, al, e, a4⟩
  refine wp_seq (wp_region_from (Rk 0 5 [(tB 24 (decide (i ≥ w_.far))), (tP 3 0 0), (tS 2 a_daily daily.length c_daily)] al e fun ac aa => ?_))
  rcases Bool.eq_false_or_eq_true (decide (i ≥ w_.far)) with d | d
  ·
   rw [d, cond_true] at H
   have am : Kn 34 [(a, 0)] [(tB 24 true), (tP 3 0 0), (tS 2 a_daily daily.length c_daily)] ac := (aa.setB 24 true (by rfl) d).kp
   refine Rk 5 10 [(tB 6 true)] am e fun a9 an => ?_
   refine wf (wp_ret ?_)
   obtain rfl := Option.some.inj H
   exact rt (.one (.c (.bool true))) an e rfl
  ·
   rw [d, cond_false] at H
   have ao : Kn 34 [(a, 0)] [(tB 24 false), (tP 3 0 0), (tS 2 a_daily daily.length c_daily)] ac := (aa.setB 24 false (by rfl) d).kp
   refine Rk 5 10 [(tB 6 (decide ((IntKind.i64.wrap (w_.age + ((daily.length : Nat) : Int))) ≥ w_.long)))] ao e fun ba ap => ?_
   refine wf (wp_ret ?_)
   obtain rfl := Option.some.inj H
   exact rt (.one (.c (.bool (decide ((IntKind.i64.wrap (w_.age + ((daily.length : Nat) : Int))) ≥ w_.long))))) ap e rfl
end Go.Proofs.Ytkbphdjemgibnaa
