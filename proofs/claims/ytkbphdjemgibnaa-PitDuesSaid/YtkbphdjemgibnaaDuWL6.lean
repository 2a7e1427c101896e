/- Each call computes its plain function. -/
import Derived.Test.YtkbphdjemgibnaaProg
import Derived.Test.YtkbphdjemgibnaaDuP0
import Derived.Test.YtkbphdjemgibnaaDuWB
import Derived.Test.YtkbphdjemgibnaaDuWT
import Derived.Test.YtkbphdjemgibnaaDuWW
set_option linter.all false
namespace Go.Proofs.Ytkbphdjemgibnaa
open Go Go.RowKit
open Rep (rep)
open KRep (kv)
open VRep (rv)
abbrev K6c1 (w_ : Wear) : List SC := [.int .i64 w_.miles.lo, .int .i64 w_.miles.hi, .int .i64 w_.daily.lo, .int .i64 w_.daily.hi, .int .i64 w_.age, .int .i64 w_.far, .int .i64 w_.long]
abbrev K6c2 (x18 : Wear) : List SC := [.int .i64 x18.miles.lo, .int .i64 x18.miles.hi, .int .i64 x18.daily.lo, .int .i64 x18.daily.hi, .int .i64 x18.age, .int .i64 x18.far, .int .i64 x18.long]
abbrev K6c3 (x25 : Wear) : List SC := [.int .i64 x25.miles.lo, .int .i64 x25.miles.hi, .int .i64 x25.daily.lo, .int .i64 x25.daily.hi, .int .i64 x25.age, .int .i64 x25.far, .int .i64 x25.long]
abbrev K6m4 (miles : Int) (a_daily : Option Addr) (daily : List Int) (c_daily : Nat) : TM := [(tP 3 0 0), (tI 1 miles), (tS 2 a_daily daily.length c_daily)]
abbrev K6m5 (x19 : Int × Int × Int) (miles : Int) (a_daily : Option Addr) (daily : List Int) (c_daily : Nat) : TM := (tI 9 x19.2.2) :: (tI 8 x19.2.1) :: (tI 7 x19.1) :: (K6m4 miles a_daily daily c_daily)
abbrev K6m6 (x29 : Bool × Int) (x19 : Int × Int × Int) : TM := [(tB 10 x29.1), (tI 8 x19.2.1), (tI 7 x19.1)]
set_option maxRecDepth 100000 in
set_option maxHeartbeats 4000000 in
theorem law_PitDues_ok (n : Nat) {h : Heap} {w : World} (hh : Has h w) (w_ : Wear) {cs_w_ : List Value} (hx_w_ : rep h w_ cs_w_) (miles : Int) (daily : List Int) {a_daily : Option Addr} {c_daily : Nat} (hr_daily : RepS h a_daily c_daily daily) {r : Bool} (H : law_PitDues n w_ miles daily = some r) :
  Calls Try.prog 6 #[.agg cs_w_.toArray, .int .i64 miles, .slice a_daily daily.length c_daily] w (Ret (fun h v => v = .bool r) h w) := by
 obtain ⟨_, _, rfl, ⟨_, _, rfl, rfl, rfl⟩, ⟨_, _, rfl, ⟨_, _, rfl, rfl, rfl⟩, ⟨_, _, rfl, rfl, ⟨_, _, rfl, rfl, rfl⟩⟩⟩⟩ := hx_w_
 refine enter 109 [.agg (K6c1 w_), .c (.int .i64 miles), .c (.slice a_daily daily.length c_daily)] Try.func6 rfl rfl rfl rfl fun t hk => ?_
 have hm := Mem.begin h w hh
 unfold law_PitDues at H
 refine wp_seq (wp_region_from (wl fun K hK => ?_))
 refine wb (.agg (K6c1 w_)) hk hm fun a ew e6 (dz : Kn 109 [(a, 0)] [(tP 3 0 0), (tA 0 (K6c1 w_)), (tI 1 miles), (tS 2 a_daily daily.length c_daily)] ew) (i : Mem ⟨w, h, noX⟩ h [(a, 0)] [⟨(K6c1 w_), some 48⟩] [] e6) => hK _ _ ?_
 refine Rk 1 1 (K6m4 miles a_daily daily c_daily) dz i fun f9 d5 => ?_
 refine wf (wp_seq (wp_seq (wp_region_from (Rk 0 3 ((tB 14 (decide (((daily.length : Nat) : Int) > 1005))) :: (K6m4 miles a_daily daily c_daily)) d5 i fun gc ar => ?_))))
 refine wf (wC (decide (((daily.length : Nat) : Int) > 1005)) ar (fun ak => ?_) (fun ak => ?_))
 ·
  rw [ak, cond_true] at H
  refine wp_seq (wp_region_from ?_)
  obtain ⟨x15, ex15, H⟩ := bnd H
  refine wl fun K hK => ?_
  refine wc [] ar i (law_wakes_ok n i.has  ex15) fun gf e8 gv b4 ff bi => ?_
  obtain rfl := b4
  refine ⟨.one (.c (.bool x15)), rfl, fun et (da : Kn 109 [(a, 0)] ((tB 15 x15) :: (tB 14 (decide (((daily.length : Nat) : Int) > 1005))) :: (K6m4 miles a_daily daily c_daily)) et) => hK _ _ ?_⟩
  refine Rk 1 1 [(tB 6 x15)] da bi fun fw de => ?_
  refine wf (wp_ret ?_)
  obtain rfl := Option.some.inj H
  exact rt (.one (.c (.bool x15))) de bi rfl
 ·
  rw [ak, cond_false] at H
  refine wp_skip (wp_seq (wp_region_from (Rk 0 1 ((tA 17 (K6c1 w_)) :: (K6m4 miles a_daily daily c_daily)) ar i fun fy dj => ?_)))
  obtain ⟨x18, ex18, H⟩ := bnd H
  refine wl fun K hK => ?_
  refine wc [.agg (K6c1 w_)] dj i (law_Wear_ok n i.has w_ ((rep_pair (rep_pair rep_int rep_int) (rep_pair (rep_pair rep_int rep_int) (rep_pair rep_int (rep_pair rep_int rep_int)))) : rep h w_ _) ex18) fun gl ci g5 cb eh bm => ?_
  obtain ⟨_, rfl, ⟨_, _, rfl, ⟨_, _, rfl, rfl, rfl⟩, ⟨_, _, rfl, ⟨_, _, rfl, rfl, rfl⟩, ⟨_, _, rfl, rfl, ⟨_, _, rfl, rfl, rfl⟩⟩⟩⟩⟩ := cb
  refine ⟨.one (.agg (K6c2 x18)), rfl, fun e0 (dx : Kn 109 [(a, 0)] ((tA 18 (K6c2 x18)) :: (tA 17 (K6c1 w_)) :: (K6m4 miles a_daily daily c_daily)) e0) => hK _ _ ?_⟩
  obtain ⟨x19, ex19, H⟩ := bnd H
  refine wl fun K hK => ?_
  refine wc [.agg (K6c2 x18)] dx bm (pit_Due_ok n bm.has x18 ((rep_pair (rep_pair rep_int rep_int) (rep_pair (rep_pair rep_int rep_int) (rep_pair rep_int (rep_pair rep_int rep_int)))) : rep ci x18 _) ex19) fun go cj g6 cc ei af => ?_
  obtain ⟨_, _, _, rfl, rfl, rfl, rfl⟩ := cc
  refine ⟨.tup [.c (.int .i64 x19.1), .c (.int .i64 x19.2.1), .c (.int .i64 x19.2.2)], rfl, fun e1 (dy : Kn 109 [(a, 0)] ((19, .tup [.c (.int .i64 x19.1), .c (.int .i64 x19.2.1), .c (.int .i64 x19.2.2)]) :: (tA 18 (K6c2 x18)) :: (tA 17 (K6c1 w_)) :: (K6m4 miles a_daily daily c_daily)) e1) => hK _ _ ?_⟩
  refine Rk 3 7 (K6m5 x19 miles a_daily daily c_daily) dy af fun f6 d0 => ?_
  refine wf (wp_seq (wp_region_from (Rk 0 1 ((tA 24 (K6c1 w_)) :: (K6m5 x19 miles a_daily daily c_daily)) d0 af fun f7 d1 => ?_)))
  obtain ⟨x25, ex25, H⟩ := bnd H
  refine wl fun K hK => ?_
  refine wc [.agg (K6c1 w_)] d1 af (law_Wear_ok n af.has w_ ((rep_pair (rep_pair rep_int rep_int) (rep_pair (rep_pair rep_int rep_int) (rep_pair rep_int (rep_pair rep_int rep_int)))) : rep cj w_ _) ex25) fun gp fd g7 cd ej av => ?_
  replace hr_daily := hr_daily.mono (Heap.le_trans (Heap.le_trans eh ei) ej)
  obtain ⟨_, rfl, ⟨_, _, rfl, ⟨_, _, rfl, rfl, rfl⟩, ⟨_, _, rfl, ⟨_, _, rfl, rfl, rfl⟩, ⟨_, _, rfl, rfl, ⟨_, _, rfl, rfl, rfl⟩⟩⟩⟩⟩ := cd
  refine ⟨.one (.agg (K6c3 x25)), rfl, fun e2 (d2 : Kn 109 [(a, 0)] ((tA 25 (K6c3 x25)) :: (tA 24 (K6c1 w_)) :: (K6m5 x19 miles a_daily daily c_daily)) e2) => hK _ _ ?_⟩
  refine Rk 2 2 ((tS 27 a_daily daily.length c_daily) :: (tI 26 miles) :: (tA 25 (K6c3 x25)) :: (K6m5 x19 miles a_daily daily c_daily)) d2 av fun f8 d3 => ?_
  obtain ⟨x28, ex28, H⟩ := bnd H
  refine wl fun K hK => ?_
  refine wc [.c (.slice a_daily daily.length c_daily)] d3 av (law_list_ok n av.has daily hr_daily ex28) fun gq ck g8 ce ek bn => ?_
  obtain ⟨ac, ad, rfl, ep⟩ := ce
  refine ⟨.one (.c (.slice ac x28.length ad)), rfl, fun e3 (d4 : Kn 109 [(a, 0)] ((tS 28 ac x28.length ad) :: (tS 27 a_daily daily.length c_daily) :: (tI 26 miles) :: (tA 25 (K6c3 x25)) :: (K6m5 x19 miles a_daily daily c_daily)) e3) => hK _ _ ?_⟩
  obtain ⟨x29, ex29, H⟩ := bnd H
  refine wl fun K hK => ?_
  refine wc [.agg (K6c3 x25), .c (.int .i64 miles), .c (.slice ac x28.length ad)] d4 bn (pit_Over_ok n bn.has x25 ((rep_pair (rep_pair rep_int rep_int) (rep_pair (rep_pair rep_int rep_int) (rep_pair rep_int (rep_pair rep_int rep_int)))) : rep ck x25 _) miles x28 ep ex29) fun gr cl g9 cf el ag => ?_
  obtain ⟨_, _, rfl, rfl, rfl⟩ := cf
  refine ⟨.tup [.c (.bool x29.1), .c (.int .i64 x29.2)], rfl, fun e4 (d6 : Kn 109 [(a, 0)] ((29, .tup [.c (.bool x29.1), .c (.int .i64 x29.2)]) :: (tS 28 ac x28.length ad) :: (tS 27 a_daily daily.length c_daily) :: (tI 26 miles) :: (tA 25 (K6c3 x25)) :: (K6m5 x19 miles a_daily daily c_daily)) e4) => hK _ _ ?_⟩
  refine Rk 6 5 ((tI 11 x29.2) :: (tB 10 x29.1) :: (K6m5 x19 miles a_daily daily c_daily)) d6 ag fun ga d7 => ?_
  refine wf (wp_seq (wp_seq (wp_region_from (Rk 0 1 ((tA 32 (K6c1 w_)) :: (tI 11 x29.2) :: (tB 10 x29.1) :: (K6m5 x19 miles a_daily daily c_daily)) d7 ag fun gb d8 => ?_))))
  obtain ⟨x33, ex33, H⟩ := bnd H
  refine wl fun K hK => ?_
  refine wc [.agg (K6c1 w_)] d8 ag (ref_RightWear_ok n ag.has w_ ((rep_pair (rep_pair rep_int rep_int) (rep_pair (rep_pair rep_int rep_int) (rep_pair rep_int (rep_pair rep_int rep_int)))) : rep cl w_ _) ex33) fun gs ai ha cg em b => ?_
  replace hr_daily := hr_daily.mono (Heap.le_trans (Heap.le_trans ek el) em)
  obtain rfl := cg
  refine ⟨.one (.c (.bool x33)), rfl, fun e5 (d9 : Kn 109 [(a, 0)] ((tB 33 x33) :: (tA 32 (K6c1 w_)) :: (tI 11 x29.2) :: (tB 10 x29.1) :: (K6m5 x19 miles a_daily daily c_daily)) e5) => hK _ _ ?_⟩
  refine Rk 2 1 ((tB 34 (!x33)) :: (tI 11 x29.2) :: (tB 10 x29.1) :: (K6m5 x19 miles a_daily daily c_daily)) d9 b fun gd aq => ?_
  refine wf (wC ((!x33)) aq (fun an => ?_) (fun an => ?_))
  ·
   rw [an, cond_true] at H
   refine wp_seq ?_
   obtain ⟨bq, d, H⟩ := bnd H
   refine wp_mid' (fun a' w' => ∃ (ay : Array Value) (aj : Heap), a' = ⟨ay, []⟩ ∧ Kn 109 [(a, 0)] [(tB 6 bq)] ay ∧ Mem ⟨w, h, noX⟩ aj [(a, 0)] [⟨(K6c1 w_), some 48⟩] [] w' ∧ Heap.le ai aj) ?_ ?_
   ·
    refine wp_region_from (Rk 0 3 ((tB 37 (x19.2.2 == 1)) :: (tI 11 x29.2) :: (K6m6 x29 x19)) aq b fun b0 be => ?_)
    rcases Bool.eq_false_or_eq_true ((x19.2.2 == 1)) with y | y
    ·
     rw [y, cond_true] at d
     have ea : Kn 109 [(a, 0)] ((tB 37 true) :: (tI 11 x29.2) :: (K6m6 x29 x19)) b0 := (be.setB 37 true (by rfl) y).kp
     refine Rk 3 4 ((tB 41 (x29.2 == 1)) :: (K6m6 x29 x19)) ea b fun b1 bf => ?_
     rcases Bool.eq_false_or_eq_true ((x29.2 == 1)) with z | z
     ·
      rw [z, cond_true] at d
      have eb : Kn 109 [(a, 0)] ((tB 41 true) :: (K6m6 x29 x19)) b1 := (bf.setB 41 true (by rfl) z).kp
      refine Rk 7 4 [(tB 45 (x19.1 == 0)), (tB 10 x29.1), (tI 8 x19.2.1)] eb b fun b2 bg => ?_
      rcases Bool.eq_false_or_eq_true ((x19.1 == 0)) with k | k
      ·
       rw [k, cond_true] at d
       have cm : Kn 109 [(a, 0)] [(tB 45 true), (tB 10 x29.1), (tI 8 x19.2.1)] b2 := (bg.setB 45 true (by rfl) k).kp
       refine Rk 11 4 [(tB 49 (x19.2.1 == 0)), (tB 10 x29.1)] cm b fun br a0 => ?_
       rcases Bool.eq_false_or_eq_true ((x19.2.1 == 0)) with l | l
       ·
        rw [l, cond_true] at d
        have cn : Kn 109 [(a, 0)] [(tB 49 true), (tB 10 x29.1)] br := (a0.setB 49 true (by rfl) l).kp
        refine Rk 15 4 [(tB 53 (!x29.1))] cn b fun bs a1 => ?_
        rcases Bool.eq_false_or_eq_true ((!x29.1)) with m | m
        ·
         rw [m, cond_true] at d
         have a2 : Kn 109 [(a, 0)] [(tB 53 true)] bs := (a1.setB 53 true (by rfl) m).kp
         obtain ⟨x54, ex54, d⟩ := bnd d
         refine wpFrom_loud _ rfl (wantedS_sound a2 (by kernel_rfl)) fun K hK => ?_
         refine wc [] a2 b (law_wakes_ok n b.has  ex54) fun gg e7 gu b3 ec bh => ?_
         obtain rfl := b3
         refine ⟨.one (.c (.bool x54)), rfl, fun er (co : Kn 109 [(a, 0)] [(tB 54 x54), (tB 53 true)] er) => hK _ _ ?_⟩
         refine Rk 20 2 [(tB 6 x54)] co bh fun fj cp => ?_
         refine wf ?_
         obtain rfl := Option.some.inj d
         exact Exists.intro _ ⟨_, rfl, cp.kp, bh, ec⟩
        ·
         rw [m, cond_false] at d
         have cq : Kn 109 [(a, 0)] [(tB 53 false)] bs := (a1.setB 53 false (by rfl) m).kp
         refine Rk 19 3 [(tB 6 false)] cq b fun fk cr => ?_
         refine wf ?_
         obtain rfl := Option.some.inj d
         exact Exists.intro _ ⟨_, rfl, cr.kp, b, (Heap.le_refl _)⟩
       ·
        rw [l, cond_false] at d
        have cs : Kn 109 [(a, 0)] [(tB 49 false), (tB 10 x29.1)] br := (a0.setB 49 false (by rfl) l).kp
        refine Rk 15 7 [(tB 6 false)] cs b fun fl ct => ?_
        refine wf ?_
        obtain rfl := Option.some.inj d
        exact Exists.intro _ ⟨_, rfl, ct.kp, b, (Heap.le_refl _)⟩
      ·
       rw [k, cond_false] at d
       have cu : Kn 109 [(a, 0)] [(tB 45 false), (tB 10 x29.1), (tI 8 x19.2.1)] b2 := (bg.setB 45 false (by rfl) k).kp
       refine Rk 11 11 [(tB 6 false)] cu b fun fm cv => ?_
       refine wf ?_
       obtain rfl := Option.some.inj d
       exact Exists.intro _ ⟨_, rfl, cv.kp, b, (Heap.le_refl _)⟩
     ·
      rw [z, cond_false] at d
      have cw : Kn 109 [(a, 0)] ((tB 41 false) :: (K6m6 x29 x19)) b1 := (bf.setB 41 false (by rfl) z).kp
      refine Rk 7 15 [(tB 6 false)] cw b fun fn cx => ?_
      refine wf ?_
      obtain rfl := Option.some.inj d
      exact Exists.intro _ ⟨_, rfl, cx.kp, b, (Heap.le_refl _)⟩
    ·
     rw [y, cond_false] at d
     have cy : Kn 109 [(a, 0)] ((tB 37 false) :: (tI 11 x29.2) :: (K6m6 x29 x19)) b0 := (be.setB 37 false (by rfl) y).kp
     refine Rk 3 19 [(tB 6 false)] cy b fun fo cz => ?_
     refine wf ?_
     obtain rfl := Option.some.inj d
     exact Exists.intro _ ⟨_, rfl, cz.kp, b, (Heap.le_refl _)⟩
   ·
    rintro _ gw ⟨ay, aj, rfl, c0, en, fe⟩
    refine wp_ret ?_
    obtain rfl := Option.some.inj H
    exact rt (.one (.c (.bool bq))) c0 en rfl
  ·
   rw [an, cond_false] at H
   refine wp_skip (wp_seq (wp_seq ?_))
   obtain ⟨bo, f, H⟩ := bnd H
   refine wp_mid' (fun a' w' => ∃ (aw : Array Value) (ae : Heap), a' = ⟨aw, []⟩ ∧ Kn 109 [(a, 0)] [(tI 11 x29.2), (tB 10 x29.1), (tP 3 0 0), (tI 1 miles), (tS 2 a_daily daily.length c_daily), (tB 81 bo)] aw ∧ Mem ⟨w, h, noX⟩ ae [(a, 0)] [⟨(K6c1 w_), some 48⟩] [] w' ∧ Heap.le ai ae) ?_ ?_
   ·
    refine wp_region_from (Rk 0 3 ((tB 58 (x19.2.2 != 0)) :: (tI 11 x29.2) :: (tB 10 x29.1) :: (tI 8 x19.2.1) :: (tI 7 x19.1) :: (K6m4 miles a_daily daily c_daily)) aq b fun bt a3 => ?_)
    rcases Bool.eq_false_or_eq_true ((x19.2.2 != 0)) with o | o
    ·
     rw [o, cond_true] at f
     have c1 : Kn 109 [(a, 0)] ((tB 58 true) :: (tI 11 x29.2) :: (tB 10 x29.1) :: (tI 8 x19.2.1) :: (tI 7 x19.1) :: (K6m4 miles a_daily daily c_daily)) bt := (a3.setB 58 true (by rfl) o).kp
     refine Rk 3 23 ((tB 81 true) :: (tI 11 x29.2) :: (tB 10 x29.1) :: (K6m4 miles a_daily daily c_daily)) c1 b fun fp c2 => ?_
     refine wf ?_
     obtain rfl := Option.some.inj f
     exact Exists.intro _ ⟨_, rfl, c2.kp, b, (Heap.le_refl _)⟩
    ·
     rw [o, cond_false] at f
     have c3 : Kn 109 [(a, 0)] ((tB 58 false) :: (tI 11 x29.2) :: (tB 10 x29.1) :: (tI 8 x19.2.1) :: (tI 7 x19.1) :: (K6m4 miles a_daily daily c_daily)) bt := (a3.setB 58 false (by rfl) o).kp
     refine Rk 3 8 ((tI 66 w_.daily.hi) :: (tI 63 w_.miles.hi) :: (tA 60 (K6c1 w_)) :: (tI 59 x19.1) :: (tB 58 false) :: (tI 11 x29.2) :: (tB 10 x29.1) :: (tI 8 x19.2.1) :: (K6m4 miles a_daily daily c_daily)) c3 b fun fq a4 => ?_
     obtain ⟨x67, ex67, f⟩ := bnd f
     refine wpFrom_loud _ rfl (wantedS_sound a4 (by kernel_rfl)) fun K hK => ?_
     refine wc [.agg (K6c1 w_), .c (.int .i64 w_.miles.hi), .c (.int .i64 w_.daily.hi)] a4 b (ref_First_ok n b.has w_ ((rep_pair (rep_pair rep_int rep_int) (rep_pair (rep_pair rep_int rep_int) (rep_pair rep_int (rep_pair rep_int rep_int)))) : rep ai w_ _) w_.miles.hi w_.daily.hi ex67) fun gh ch gx b5 au j => ?_
     replace hr_daily := hr_daily.mono au
     obtain rfl := b5
     refine ⟨.one (.c (.int .i64 x67)), rfl, fun es (c4 : Kn 109 [(a, 0)] ((tI 67 x67) :: (tI 66 w_.daily.hi) :: (tI 63 w_.miles.hi) :: (tA 60 (K6c1 w_)) :: (tI 59 x19.1) :: (tB 58 false) :: (tI 11 x29.2) :: (tB 10 x29.1) :: (tI 8 x19.2.1) :: (K6m4 miles a_daily daily c_daily)) es) => hK _ _ ?_⟩
     refine Rk 12 3 ((tB 70 (x19.1 != x67)) :: (tI 11 x29.2) :: (tB 10 x29.1) :: (tI 8 x19.2.1) :: (K6m4 miles a_daily daily c_daily)) c4 j fun bu a5 => ?_
     rcases Bool.eq_false_or_eq_true ((x19.1 != x67)) with p | p
     ·
      rw [p, cond_true] at f
      have c5 : Kn 109 [(a, 0)] ((tB 70 true) :: (tI 11 x29.2) :: (tB 10 x29.1) :: (tI 8 x19.2.1) :: (K6m4 miles a_daily daily c_daily)) bu := (a5.setB 70 true (by rfl) p).kp
      refine Rk 15 11 ((tB 81 true) :: (tI 11 x29.2) :: (tB 10 x29.1) :: (K6m4 miles a_daily daily c_daily)) c5 j fun fr c6 => ?_
      refine wf ?_
      obtain rfl := Option.some.inj f
      exact Exists.intro _ ⟨_, rfl, c6.kp, j, au⟩
     ·
      rw [p, cond_false] at f
      have c7 : Kn 109 [(a, 0)] ((tB 70 false) :: (tI 11 x29.2) :: (tB 10 x29.1) :: (tI 8 x19.2.1) :: (K6m4 miles a_daily daily c_daily)) bu := (a5.setB 70 false (by rfl) p).kp
      refine Rk 15 8 ((tI 78 w_.daily.lo) :: (tI 75 w_.miles.lo) :: (tA 72 (K6c1 w_)) :: (tI 71 x19.2.1) :: (tB 70 false) :: (tI 11 x29.2) :: (tB 10 x29.1) :: (K6m4 miles a_daily daily c_daily)) c7 j fun fs a6 => ?_
      obtain ⟨x79, ex79, f⟩ := bnd f
      refine wpFrom_loud _ rfl (wantedS_sound a6 (by kernel_rfl)) fun K hK => ?_
      refine wc [.agg (K6c1 w_), .c (.int .i64 w_.miles.lo), .c (.int .i64 w_.daily.lo)] a6 j (ref_First_ok n j.has w_ ((rep_pair (rep_pair rep_int rep_int) (rep_pair (rep_pair rep_int rep_int) (rep_pair rep_int (rep_pair rep_int rep_int)))) : rep ch w_ _) w_.miles.lo w_.daily.lo ex79) fun gi e9 gy b6 ed bj => ?_
      obtain rfl := b6
      refine ⟨.one (.c (.int .i64 x79)), rfl, fun eu (c8 : Kn 109 [(a, 0)] ((tI 79 x79) :: (tI 78 w_.daily.lo) :: (tI 75 w_.miles.lo) :: (tA 72 (K6c1 w_)) :: (tI 71 x19.2.1) :: (tB 70 false) :: (tI 11 x29.2) :: (tB 10 x29.1) :: (K6m4 miles a_daily daily c_daily)) eu) => hK _ _ ?_⟩
      refine Rk 24 2 ((tB 81 (x19.2.1 != x79)) :: (tI 11 x29.2) :: (tB 10 x29.1) :: (K6m4 miles a_daily daily c_daily)) c8 bj fun ft c9 => ?_
      refine wf ?_
      obtain rfl := Option.some.inj f
      exact Exists.intro _ ⟨_, rfl, c9.kp, bj, (Heap.le_trans au ed)⟩
   ·
    rintro _ gz ⟨aw, ae, rfl, ao, aa, ee⟩
    replace hr_daily := hr_daily.mono ee
    refine wC (bo) ao (fun al => ?_) (fun al => ?_)
    ·
     rw [al, cond_true] at H
     refine wp_seq (wp_region_from (Rk 0 1 [(tB 6 false)] ao aa fun fu db => ?_))
     refine wf (wp_ret ?_)
     obtain rfl := Option.some.inj H
     exact rt (.one (.c (.bool false))) db aa rfl
    ·
     rw [al, cond_false] at H
     refine wp_skip (wp_seq (wp_seq (wp_region_from (Rk 0 3 ((tS 84 a_daily daily.length c_daily) :: (tI 83 miles) :: (tA 82 (K6c1 w_)) :: (tI 11 x29.2) :: (tB 10 x29.1) :: (K6m4 miles a_daily daily c_daily)) ao aa fun fv dc => ?_))))
     obtain ⟨x85, ex85, H⟩ := bnd H
     refine wl fun K hK => ?_
     refine wc [.agg (K6c1 w_), .c (.int .i64 miles), .c (.slice a_daily daily.length c_daily)] dc aa (ref_IsTruth_ok n aa.has w_ ((rep_pair (rep_pair rep_int rep_int) (rep_pair (rep_pair rep_int rep_int) (rep_pair rep_int (rep_pair rep_int rep_int)))) : rep ae w_ _) miles daily hr_daily ex85) fun gj az g0 b7 ef e => ?_
     replace hr_daily := hr_daily.mono ef
     obtain rfl := b7
     refine ⟨.one (.c (.bool x85)), rfl, fun ev (dd : Kn 109 [(a, 0)] ((tB 85 x85) :: (tS 84 a_daily daily.length c_daily) :: (tI 83 miles) :: (tA 82 (K6c1 w_)) :: (tI 11 x29.2) :: (tB 10 x29.1) :: (K6m4 miles a_daily daily c_daily)) ev) => hK _ _ ?_⟩
     refine Rk 4 1 ((tB 86 (!x85)) :: (tI 11 x29.2) :: (tB 10 x29.1) :: (K6m4 miles a_daily daily c_daily)) dd e fun fx ap => ?_
     refine wf (wC ((!x85)) ap (fun am => ?_) (fun am => ?_))
     ·
      rw [am, cond_true] at H
      refine wp_seq ?_
      obtain ⟨bp, g, H⟩ := bnd H
      refine wp_mid' (fun a' w' => ∃ (ax : Array Value) (ah : Heap), a' = ⟨ax, []⟩ ∧ Kn 109 [(a, 0)] [(tB 6 bp)] ax ∧ Mem ⟨w, h, noX⟩ ah [(a, 0)] [⟨(K6c1 w_), some 48⟩] [] w' ∧ Heap.le az ah) ?_ ?_
      ·
       refine wp_region_from (Rk 0 3 [(tB 89 (x29.2 == 2)), (tB 10 x29.1)] ap e fun bv a7 => ?_)
       rcases Bool.eq_false_or_eq_true ((x29.2 == 2)) with q | q
       ·
        rw [q, cond_true] at g
        have df : Kn 109 [(a, 0)] [(tB 89 true), (tB 10 x29.1)] bv := (a7.setB 89 true (by rfl) q).kp
        refine Rk 3 4 [(tB 93 (!x29.1))] df e fun bw a8 => ?_
        rcases Bool.eq_false_or_eq_true ((!x29.1)) with s | s
        ·
         rw [s, cond_true] at g
         have a9 : Kn 109 [(a, 0)] [(tB 93 true)] bw := (a8.setB 93 true (by rfl) s).kp
         obtain ⟨x94, ex94, g⟩ := bnd g
         refine wpFrom_loud _ rfl (wantedS_sound a9 (by kernel_rfl)) fun K hK => ?_
         refine wc [] a9 e (law_wakes_ok n e.has  ex94) fun gk fa g1 b8 eg bk => ?_
         obtain rfl := b8
         refine ⟨.one (.c (.bool x94)), rfl, fun ex (dg : Kn 109 [(a, 0)] [(tB 94 x94), (tB 93 true)] ex) => hK _ _ ?_⟩
         refine Rk 8 2 [(tB 6 x94)] dg bk fun fz dh => ?_
         refine wf ?_
         obtain rfl := Option.some.inj g
         exact Exists.intro _ ⟨_, rfl, dh.kp, bk, eg⟩
        ·
         rw [s, cond_false] at g
         have di : Kn 109 [(a, 0)] [(tB 93 false)] bw := (a8.setB 93 false (by rfl) s).kp
         refine Rk 7 3 [(tB 6 false)] di e fun f0 dk => ?_
         refine wf ?_
         obtain rfl := Option.some.inj g
         exact Exists.intro _ ⟨_, rfl, dk.kp, e, (Heap.le_refl _)⟩
       ·
        rw [q, cond_false] at g
        have dl : Kn 109 [(a, 0)] [(tB 89 false), (tB 10 x29.1)] bv := (a7.setB 89 false (by rfl) q).kp
        refine Rk 3 7 [(tB 6 false)] dl e fun f1 dm => ?_
        refine wf ?_
        obtain rfl := Option.some.inj g
        exact Exists.intro _ ⟨_, rfl, dm.kp, e, (Heap.le_refl _)⟩
      ·
       rintro _ g2 ⟨ax, ah, rfl, dn, eo, fg⟩
       refine wp_ret ?_
       obtain rfl := Option.some.inj H
       exact rt (.one (.c (.bool bp))) dn eo rfl
     ·
      rw [am, cond_false] at H
      refine wp_skip (wp_seq (wp_region_from (Rk 0 3 ((tB 98 (x29.2 == 0)) :: (tB 10 x29.1) :: (K6m4 miles a_daily daily c_daily)) ap e fun bx ba => ?_)))
      rcases Bool.eq_false_or_eq_true ((x29.2 == 0)) with u | u
      ·
       rw [u, cond_true] at H
       have dp : Kn 109 [(a, 0)] ((tB 98 true) :: (tB 10 x29.1) :: (K6m4 miles a_daily daily c_daily)) bx := (ba.setB 98 true (by rfl) u).kp
       refine Rk 3 4 [(tS 102 a_daily daily.length c_daily), (tI 101 miles), (tA 100 (K6c1 w_)), (tB 99 x29.1), (tB 98 true)] dp e fun f2 bb => ?_
       obtain ⟨x103, ex103, H⟩ := bnd H
       refine wpFrom_loud _ rfl (wantedS_sound bb (by kernel_rfl)) fun K hK => ?_
       refine wc [.agg (K6c1 w_), .c (.int .i64 miles), .c (.slice a_daily daily.length c_daily)] bb e (ref_Over_ok n e.has w_ ((rep_pair (rep_pair rep_int rep_int) (rep_pair (rep_pair rep_int rep_int) (rep_pair rep_int (rep_pair rep_int rep_int)))) : rep az w_ _) miles daily hr_daily ex103) fun gm fb g3 b9 fh ab => ?_
       obtain rfl := b9
       refine ⟨.one (.c (.bool x103)), rfl, fun ey (dq : Kn 109 [(a, 0)] [(tB 103 x103), (tS 102 a_daily daily.length c_daily), (tI 101 miles), (tA 100 (K6c1 w_)), (tB 99 x29.1), (tB 98 true)] ey) => hK _ _ ?_⟩
       refine Rk 8 3 [(tB 106 (x29.1 == x103))] dq ab fun bz bc => ?_
       rcases Bool.eq_false_or_eq_true ((x29.1 == x103)) with x | x
       ·
        rw [x, cond_true] at H
        have bd : Kn 109 [(a, 0)] [(tB 106 true)] bz := (bc.setB 106 true (by rfl) x).kp
        obtain ⟨x107, ex107, H⟩ := bnd H
        refine wpFrom_loud _ rfl (wantedS_sound bd (by kernel_rfl)) fun K hK => ?_
        refine wc [] bd ab (law_wakes_ok n ab.has  ex107) fun gn fc g4 ca fi bl => ?_
        obtain rfl := ca
        refine ⟨.one (.c (.bool x107)), rfl, fun ez (dr : Kn 109 [(a, 0)] [(tB 107 x107), (tB 106 true)] ez) => hK _ _ ?_⟩
        refine Rk 12 2 [(tB 6 x107)] dr bl fun f3 ds => ?_
        refine wf (wp_ret ?_)
        obtain rfl := Option.some.inj H
        exact rt (.one (.c (.bool x107))) ds bl rfl
       ·
        rw [x, cond_false] at H
        have dt : Kn 109 [(a, 0)] [(tB 106 false)] bz := (bc.setB 106 false (by rfl) x).kp
        refine Rk 11 3 [(tB 6 false)] dt ab fun f4 du => ?_
        refine wf (wp_ret ?_)
        obtain rfl := Option.some.inj H
        exact rt (.one (.c (.bool false))) du ab rfl
      ·
       rw [u, cond_false] at H
       have dv : Kn 109 [(a, 0)] ((tB 98 false) :: (tB 10 x29.1) :: (K6m4 miles a_daily daily c_daily)) bx := (ba.setB 98 false (by rfl) u).kp
       refine Rk 3 11 [(tB 6 false)] dv e fun f5 dw => ?_
       refine wf (wp_ret ?_)
       obtain rfl := Option.some.inj H
       exact rt (.one (.c (.bool false))) dw e rfl
end Go.Proofs.Ytkbphdjemgibnaa
