/- Each call computes its plain function. -/
import Derived.Test.YtkbphdjemgibnaaProg
import Derived.Test.YtkbphdjemgibnaaRuP0
import Derived.Test.YtkbphdjemgibnaaRuWB
import Derived.Test.YtkbphdjemgibnaaRuWT
import Derived.Test.YtkbphdjemgibnaaRuWW
set_option linter.all false
namespace Go.Proofs.Ytkbphdjemgibnaa
open Go Go.RowKit
open Rep (rep)
open KRep (kv)
open VRep (rv)
abbrev K7c1 (w_ : Wear) : List SC := [.int .i64 w_.miles.lo, .int .i64 w_.miles.hi, .int .i64 w_.daily.lo, .int .i64 w_.daily.hi, .int .i64 w_.age, .int .i64 w_.far, .int .i64 w_.long]
abbrev K7c2 (x28 : Wear) : List SC := [.int .i64 x28.miles.lo, .int .i64 x28.miles.hi, .int .i64 x28.daily.lo, .int .i64 x28.daily.hi, .int .i64 x28.age, .int .i64 x28.far, .int .i64 x28.long]
abbrev K7c3 (x88 : Wear) : List SC := [.int .i64 x88.miles.lo, .int .i64 x88.miles.hi, .int .i64 x88.daily.lo, .int .i64 x88.daily.hi, .int .i64 x88.age, .int .i64 x88.far, .int .i64 x88.long]
abbrev K7c4 (x110 : Wear) : List SC := [.int .i64 x110.miles.lo, .int .i64 x110.miles.hi, .int .i64 x110.daily.lo, .int .i64 x110.daily.hi, .int .i64 x110.age, .int .i64 x110.far, .int .i64 x110.long]
abbrev K7c5 (x124 : Wear) : List SC := [.int .i64 x124.miles.lo, .int .i64 x124.miles.hi, .int .i64 x124.daily.lo, .int .i64 x124.daily.hi, .int .i64 x124.age, .int .i64 x124.far, .int .i64 x124.long]
abbrev K7m6 (day : IK .u16) (x29 : Int × Int × Int) (miles : IK .u32) (a_words : Option Addr) (words : List (IK .u16)) (c_words : Nat) : TM := [(tI 12 (Int.tmod (IntKind.i64.wrap day.n) 1001)), (tI 10 x29.2.1), (tI 9 x29.1), (tP 4 0 0), (1, .one (.c (.int .u32 miles.n))), (tS 2 a_words words.length c_words)]
abbrev K7m7 (miles : IK .u32) (a_words : Option Addr) (words : List (IK .u16)) (c_words : Nat) (day : IK .u16) : TM := [(tP 4 0 0), (1, .one (.c (.int .u32 miles.n))), (tS 2 a_words words.length c_words), (3, .one (.c (.int .u16 day.n)))]
abbrev K7m8 (x105 : Bool × Int) (day : IK .u16) (x29 : Int × Int × Int) : TM := [(tB 16 x105.1), (tI 12 (Int.tmod (IntKind.i64.wrap day.n) 1001)), (tI 10 x29.2.1), (tI 9 x29.1)]
abbrev K7m9 (day : IK .u16) (x29 : Int × Int × Int) : TM := [(tI 12 (Int.tmod (IntKind.i64.wrap day.n) 1001)), (tI 10 x29.2.1), (tI 9 x29.1), (tP 4 0 0)]
abbrev K7m10 (x29 : Int × Int × Int) (w_ : Wear) (x119 x105 : Bool × Int) (day : IK .u16) : TM := (tI 133 (if (IntKind.i64.wrap (x29.2.1 - 1)) > 0 then (IntKind.i64.wrap (x29.2.1 - 1)) else 0)) :: (tI 130 w_.daily.lo) :: (tI 127 w_.miles.lo) :: (tA 123 (K7c1 w_)) :: (tI 19 x119.2) :: (tB 18 x119.1) :: (tI 17 x105.2) :: (K7m8 x105 day x29)
abbrev K7m11 (m : Option Addr) (l : List Int) (o : Nat) (w_ : Wear) (miles : IK .u32) (day : IK .u16) (x29 : Int × Int × Int) : TM := (tS 104 m l.length o) :: (tI 103 (IntKind.i64.wrap (w_.miles.lo + (Int.tmod (IntKind.i64.wrap miles.n) (IntKind.i64.wrap ((IntKind.i64.wrap (w_.miles.hi - w_.miles.lo)) + 1)))))) :: (tA 87 (K7c1 w_)) :: (K7m9 day x29)
set_option maxRecDepth 100000 in
set_option maxHeartbeats 4000000 in
theorem law_PitRuns_ok (n : Nat) {h : Heap} {w : World} (hh : Has h w) (w_ : Wear) {cs_w_ : List Value} (hx_w_ : rep h w_ cs_w_) (miles : IK .u32) (words : List (IK .u16)) {a_words : Option Addr} {c_words : Nat} (hr_words : RepS h a_words c_words words) (day : IK .u16) {r : Bool} (H : law_PitRuns n w_ miles words day = some r) :
  Calls Try.prog 7 #[.agg cs_w_.toArray, .int .u32 miles.n, .slice a_words words.length c_words, .int .u16 day.n] w (Ret (fun h v => v = .bool r) h w) := by
 obtain ⟨_, _, rfl, ⟨_, _, rfl, rfl, rfl⟩, ⟨_, _, rfl, ⟨_, _, rfl, rfl, rfl⟩, ⟨_, _, rfl, rfl, ⟨_, _, rfl, rfl, rfl⟩⟩⟩⟩ := hx_w_
 refine enter 177 [.agg (K7c1 w_), .c (.int .u32 miles.n), .c (.slice a_words words.length c_words), .c (.int .u16 day.n)] Try.func7 rfl rfl rfl rfl fun t hk => ?_
 have hm := Mem.begin h w hh
 unfold law_PitRuns at H
 refine wp_seq (wp_region_from (wl fun K hK => ?_))
 refine wb (.agg (K7c1 w_)) hk hm fun a h0 il (gm : Kn 177 [(a, 0)] [(tP 4 0 0), (tA 0 (K7c1 w_)), (1, .one (.c (.int .u32 miles.n))), (tS 2 a_words words.length c_words), (3, .one (.c (.int .u16 day.n)))] h0) (bc : Mem ⟨w, h, noX⟩ h [(a, 0)] [⟨(K7c1 w_), some 48⟩] [] il) => hK _ _ ?_
 refine Rk 1 1 (K7m7 miles a_words words c_words day) gm bc fun j6 gx => ?_
 refine wf (wp_seq (wp_seq (wp_region_from (Rk 0 1 ((tA 22 (K7c1 w_)) :: (K7m7 miles a_words words c_words day)) gx bc fun ka g6 => ?_))))
 obtain ⟨x23, ex23, H⟩ := bnd H
 refine wl fun K hK => ?_
 refine wc [.agg (K7c1 w_)] g6 bc (ref_RightWear_ok n bc.has w_ ((rep_pair (rep_pair rep_int rep_int) (rep_pair (rep_pair rep_int rep_int) (rep_pair rep_int (rep_pair rep_int rep_int)))) : rep h w_ _) ex23) fun kf d6 kw dq g8 ai => ?_
 replace hr_words := hr_words.mono g8
 obtain rfl := dq
 refine ⟨.one (.c (.bool x23)), rfl, fun hw (ew : Kn 177 [(a, 0)] ((tB 23 x23) :: (tA 22 (K7c1 w_)) :: (K7m7 miles a_words words c_words day)) hw) => hK _ _ ?_⟩
 refine Rk 2 1 ((tB 24 (!x23)) :: (K7m7 miles a_words words c_words day)) ew ai fun jf bn => ?_
 refine wf (wC ((!x23)) bn (fun bh => ?_) (fun bh => ?_))
 ·
  rw [bh, cond_true] at H
  refine wp_seq (wp_region_from ?_)
  obtain ⟨x25, ex25, H⟩ := bnd H
  refine wl fun K hK => ?_
  refine wc [] bn ai (law_wakes_ok n ai.has  ex25) fun ki ir k2 dw i0 c1 => ?_
  obtain rfl := dw
  refine ⟨.one (.c (.bool x25)), rfl, fun h8 (fj : Kn 177 [(a, 0)] ((tB 25 x25) :: (tB 24 (!x23)) :: (K7m7 miles a_words words c_words day)) h8) => hK _ _ ?_⟩
  refine Rk 1 1 [(tB 8 x25)] fj c1 fun jo fs => ?_
  refine wf (wp_ret ?_)
  obtain rfl := Option.some.inj H
  exact rt (.one (.c (.bool x25))) fs c1 rfl
 ·
  rw [bh, cond_false] at H
  refine wp_skip (wp_seq (wp_region_from (Rk 0 1 ((tA 27 (K7c1 w_)) :: (K7m7 miles a_words words c_words day)) bn ai fun jt fz => ?_)))
  obtain ⟨x28, ex28, H⟩ := bnd H
  refine wl fun K hK => ?_
  refine wc [.agg (K7c1 w_)] fz ai (law_Wear_ok n ai.has w_ ((rep_pair (rep_pair rep_int rep_int) (rep_pair (rep_pair rep_int rep_int) (rep_pair rep_int (rep_pair rep_int rep_int)))) : rep d6 w_ _) ex28) fun kr ec la d2 hb c5 => ?_
  obtain ⟨_, rfl, ⟨_, _, rfl, ⟨_, _, rfl, rfl, rfl⟩, ⟨_, _, rfl, ⟨_, _, rfl, rfl, rfl⟩, ⟨_, _, rfl, rfl, ⟨_, _, rfl, rfl, rfl⟩⟩⟩⟩⟩ := d2
  refine ⟨.one (.agg (K7c2 x28)), rfl, fun ie (gn : Kn 177 [(a, 0)] ((tA 28 (K7c2 x28)) :: (tA 27 (K7c1 w_)) :: (K7m7 miles a_words words c_words day)) ie) => hK _ _ ?_⟩
  obtain ⟨x29, ex29, H⟩ := bnd H
  refine wl fun K hK => ?_
  refine wc [.agg (K7c2 x28)] gn c5 (pit_Due_ok n c5.has x28 ((rep_pair (rep_pair rep_int rep_int) (rep_pair (rep_pair rep_int rep_int) (rep_pair rep_int (rep_pair rep_int rep_int)))) : rep ec x28 _) ex29) fun kv ed ld d5 hc q => ?_
  replace hr_words := hr_words.mono (Heap.le_trans hb hc)
  obtain ⟨_, _, _, rfl, rfl, rfl, rfl⟩ := d5
  refine ⟨.tup [.c (.int .i64 x29.1), .c (.int .i64 x29.2.1), .c (.int .i64 x29.2.2)], rfl, fun ig (go : Kn 177 [(a, 0)] ((29, .tup [.c (.int .i64 x29.1), .c (.int .i64 x29.2.1), .c (.int .i64 x29.2.2)]) :: (tA 28 (K7c2 x28)) :: (tA 27 (K7c1 w_)) :: (K7m7 miles a_words words c_words day)) ig) => hK _ _ ?_⟩
  refine Rk 3 7 ((tI 11 x29.2.2) :: (tI 10 x29.2.1) :: (tI 9 x29.1) :: (K7m7 miles a_words words c_words day)) go q fun j4 gp => ?_
  refine wf (wp_seq (wp_seq ?_))
  obtain ⟨c9, s, H⟩ := bnd H
  refine wp_mid' (fun a' w' => ∃ (b4 : Array Value) (z : Heap), a' = ⟨b4, []⟩ ∧ Kn 177 [(a, 0)] [(tI 10 x29.2.1), (tI 9 x29.1), (tP 4 0 0), (1, .one (.c (.int .u32 miles.n))), (tS 2 a_words words.length c_words), (3, .one (.c (.int .u16 day.n))), (tB 49 c9)] b4 ∧ Mem ⟨w, h, noX⟩ z [(a, 0)] [⟨(K7c1 w_), some 48⟩] [] w' ∧ Heap.le ed z) ?_ ?_
  ·
   refine wp_region_from (Rk 0 3 ((tB 35 (x29.2.2 != 0)) :: (tI 10 x29.2.1) :: (tI 9 x29.1) :: (K7m7 miles a_words words c_words day)) gp q fun dl cn => ?_)
   rcases Bool.eq_false_or_eq_true ((x29.2.2 != 0)) with a0 | a0
   ·
    rw [a0, cond_true] at s
    have gq : Kn 177 [(a, 0)] ((tB 35 true) :: (tI 10 x29.2.1) :: (tI 9 x29.1) :: (K7m7 miles a_words words c_words day)) dl := (cn.setB 35 true (by rfl) a0).kp
    refine Rk 3 14 ((tB 49 true) :: (tI 10 x29.2.1) :: (tI 9 x29.1) :: (K7m7 miles a_words words c_words day)) gq q fun j5 gr => ?_
    refine wf ?_
    obtain rfl := Option.some.inj s
    exact Exists.intro _ ⟨_, rfl, gr.kp, q, (Heap.le_refl _)⟩
   ·
    rw [a0, cond_false] at s
    have gs : Kn 177 [(a, 0)] ((tB 35 false) :: (tI 10 x29.2.1) :: (tI 9 x29.1) :: (K7m7 miles a_words words c_words day)) dl := (cn.setB 35 false (by rfl) a0).kp
    refine Rk 3 4 ((tB 39 (decide (x29.1 < 0))) :: (tI 10 x29.2.1) :: (tI 9 x29.1) :: (K7m7 miles a_words words c_words day)) gs q fun dm co => ?_
    rcases Bool.eq_false_or_eq_true (decide (x29.1 < 0)) with a1 | a1
    ·
     rw [a1, cond_true] at s
     have gu : Kn 177 [(a, 0)] ((tB 39 true) :: (tI 10 x29.2.1) :: (tI 9 x29.1) :: (K7m7 miles a_words words c_words day)) dm := (co.setB 39 true (by rfl) a1).kp
     refine Rk 7 10 ((tB 49 true) :: (tI 10 x29.2.1) :: (tI 9 x29.1) :: (K7m7 miles a_words words c_words day)) gu q fun j7 gv => ?_
     refine wf ?_
     obtain rfl := Option.some.inj s
     exact Exists.intro _ ⟨_, rfl, gv.kp, q, (Heap.le_refl _)⟩
    ·
     rw [a1, cond_false] at s
     have gw : Kn 177 [(a, 0)] ((tB 39 false) :: (tI 10 x29.2.1) :: (tI 9 x29.1) :: (K7m7 miles a_words words c_words day)) dm := (co.setB 39 false (by rfl) a1).kp
     refine Rk 7 5 ((tB 44 (decide (x29.1 > x29.2.1))) :: (tI 10 x29.2.1) :: (tI 9 x29.1) :: (K7m7 miles a_words words c_words day)) gw q fun dp cp => ?_
     rcases Bool.eq_false_or_eq_true (decide (x29.1 > x29.2.1)) with a2 | a2
     ·
      rw [a2, cond_true] at s
      have gy : Kn 177 [(a, 0)] ((tB 44 true) :: (tI 10 x29.2.1) :: (tI 9 x29.1) :: (K7m7 miles a_words words c_words day)) dp := (cp.setB 44 true (by rfl) a2).kp
      refine Rk 12 5 ((tB 49 true) :: (tI 10 x29.2.1) :: (tI 9 x29.1) :: (K7m7 miles a_words words c_words day)) gy q fun j8 gz => ?_
      refine wf ?_
      obtain rfl := Option.some.inj s
      exact Exists.intro _ ⟨_, rfl, gz.kp, q, (Heap.le_refl _)⟩
     ·
      rw [a2, cond_false] at s
      have g0 : Kn 177 [(a, 0)] ((tB 44 false) :: (tI 10 x29.2.1) :: (tI 9 x29.1) :: (K7m7 miles a_words words c_words day)) dp := (cp.setB 44 false (by rfl) a2).kp
      refine Rk 12 5 ((tB 49 (decide (x29.2.1 > w_.long))) :: (tI 10 x29.2.1) :: (tI 9 x29.1) :: (K7m7 miles a_words words c_words day)) g0 q fun j9 g1 => ?_
      refine wf ?_
      obtain rfl := Option.some.inj s
      exact Exists.intro _ ⟨_, rfl, g1.kp, q, (Heap.le_refl _)⟩
  ·
   rintro _ im ⟨b4, z, rfl, bp, aj, hd⟩
   replace hr_words := hr_words.mono hd
   refine wC (c9) bp (fun bj => ?_) (fun bj => ?_)
   ·
    rw [bj, cond_true] at H
    refine wp_seq (wp_region_from (Rk 0 1 [(tB 8 false)] bp aj fun kb g2 => ?_))
    refine wf (wp_ret ?_)
    obtain rfl := Option.some.inj H
    exact rt (.one (.c (.bool false))) g2 aj rfl
   ·
    rw [bj, cond_false] at H
    refine wp_skip (wp_seq (wp_region_from (Rk 0 4 (K7m6 day x29 miles a_words words c_words) bp aj fun kc g3 => ?_)))
    refine wf (wp_seq (wp_region_from (Rk 0 1 ((tS 13 none 0 0) :: (K7m6 day x29 miles a_words words c_words)) g3 aj fun kd g4 => ?_)))
    refine wf (wp_seq (wp_seq (wp_region_from (Rk 0 1 ((tI 14 0) :: (tS 13 none 0 0) :: (K7m6 day x29 miles a_words words c_words)) g4 aj fun ke g5 => ?_))))
    refine wf ?_
    have he : Mem ⟨w, h, noX⟩ z [(a, 0)] [⟨(K7c1 w_), some 48⟩] [⟨none, 0, 0, 3, 1, [], 0⟩] im := aj.nilRow 3 1
    have eh : Cells z ([] : List Int) [] := Cells.nil
    obtain ⟨l, b6, H⟩ := bnd H
    refine wp_mid' (fun a' w' => ∃ (m : Option Addr) (o : Nat) (af : List Value) (b0 : Array Value) (am : Heap), a' = ⟨b0, []⟩ ∧ Kn 177 [(a, 0)] [(tS 13 m l.length o), (tI 12 (Int.tmod (IntKind.i64.wrap day.n) 1001)), (tI 10 x29.2.1), (tI 9 x29.1), (tP 4 0 0), (1, .one (.c (.int .u32 miles.n)))] b0 ∧ Mem ⟨w, h, noX⟩ am [(a, 0)] [⟨(K7c1 w_), some 48⟩] [⟨m, l.length, o, 3, 1, af, 0⟩] w' ∧ Heap.le z am ∧ Cells am l af) ?_ ?_
    ·
     refine wp_block ?_
     refine wp_loop_n (fun hr a' w' => ∃ (x_v10 : List Int) (x_v11 : Int) (d : Option Addr) (e : Nat) (u : List Value) (b1 : Array Value) (ag : Heap), a' = ⟨b1, []⟩ ∧ Kn 177 [(a, 0)] ((tI 14 x_v11) :: (tS 13 d x_v10.length e) :: (K7m6 day x29 miles a_words words c_words)) b1 ∧ Mem ⟨w, h, noX⟩ ag [(a, 0)] [⟨(K7c1 w_), some 48⟩] [⟨d, x_v10.length, e, 3, 1, u, 0⟩] w' ∧ Heap.le z ag ∧ Cells ag x_v10 u ∧ law_PitRuns_l1 hr w_ words day x_v10 x_v11 = some l) n ?_ ?_
     ·
      exact Exists.intro ([] : List Int) ⟨0, none, 0, ([]), _, _, rfl, g5.kp, he, (Heap.le_refl _), eh, b6⟩
     ·
      rintro bz _ ih ⟨x_v10, x_v11, d, e, u, b1, ag, rfl, ej, ab, bq, a9, p⟩
      clear b6
      obtain _ | bz := bz
      ·
       rw [law_PitRuns_l1] at p; cases p
      rw [law_PitRuns_l1] at p
      replace hr_words := hr_words.mono bq
      refine wp_seq (wp_seq (wp_region_from (Rk 0 3 ((tB 55 (decide (x_v11 < (Int.tmod (IntKind.i64.wrap day.n) 1001)))) :: (tI 14 x_v11) :: (tS 13 d x_v10.length e) :: (K7m6 day x29 miles a_words words c_words)) ej ab fun i5 bl => ?_)))
      refine wf (wC (decide (x_v11 < (Int.tmod (IntKind.i64.wrap day.n) 1001))) bl (fun bf => ?_) (fun bf => ?_))
      ·
       rw [bf, cond_true] at p
       refine wp_skip (wp_seq (wp_block (wp_seq (wp_region_from (Rk 0 1 ((tI 15 0) :: (tI 14 x_v11) :: (tS 13 d x_v10.length e) :: (K7m6 day x29 miles a_words words c_words)) bl ab fun i6 ek => ?_)))))
       refine wf (wp_seq (wp_seq (wp_region_from (Rk 0 3 ((tB 60 (decide (((words.length : Nat) : Int) > 0))) :: (tI 15 0) :: (tI 14 x_v11) :: (tS 13 d x_v10.length e) :: (K7m6 day x29 miles a_words words c_words)) ek ab fun i7 bm => ?_))))
       refine wf ?_
       obtain ⟨g, x, p⟩ := bnd p
       refine wp_mid' (fun a' w' => ∃ (b2 : Array Value) (y : Heap), a' = ⟨b2, []⟩ ∧ Kn 177 [(a, 0)] ((tI 15 g) :: (tI 14 x_v11) :: (tS 13 d x_v10.length e) :: (K7m6 day x29 miles a_words words c_words)) b2 ∧ Mem ⟨w, h, noX⟩ y [(a, 0)] [⟨(K7c1 w_), some 48⟩] [⟨d, x_v10.length, e, 3, 1, u, 0⟩] w' ∧ Heap.le ag y) ?_ ?_
       ·
        refine wC (decide (((words.length : Nat) : Int) > 0)) bm (fun bg => ?_) (fun bg => ?_)
        ·
         rw [bg, cond_true] at x
         refine wp_region_from (Rk 0 4 ((tI 64 ((words.length : Nat) : Int)) :: (tI 62 x_v11) :: (tS 61 a_words words.length c_words) :: (tI 14 x_v11) :: (tS 13 d x_v10.length e) :: (K7m6 day x29 miles a_words words c_words)) bm ab fun i8 el => ?_)
         obtain ⟨x65, ex65, x⟩ := bnd x
         refine R_rem 4 el rfl rfl (rfl) rfl (by decide) (by rfl) (by rfl) (nz_some ex65) fun hs (em : Kn 177 [(a, 0)] ((tI 65 (Int.tmod x_v11 ((words.length : Nat) : Int))) :: (tI 64 ((words.length : Nat) : Int)) :: (tI 62 x_v11) :: (tS 61 a_words words.length c_words) :: (tI 14 x_v11) :: (tS 13 d x_v10.length e) :: (K7m6 day x29 miles a_words words c_words)) hs) => ?_
         obtain ⟨x66, ex66, x⟩ := bnd x
         obtain ⟨hf, hg, hq⟩ := idx_some ex66
         obtain ⟨b5, c7, io, ee, hp, ef⟩ := hr_words.get (by decide) hq
         obtain rfl := hp
         have c0 : Mem ⟨w, h, noX⟩ ag [(a, 0), (b5, c7 + (Int.tmod x_v11 ((words.length : Nat) : Int) : Int).toNat * 1)] [⟨(K7c1 w_), some 48⟩, ⟨[.int .u16 x66.n], none⟩] [⟨d, x_v10.length, e, 3, 1, u, 0⟩] ih := ab.addPlc (cs := [.int .u16 x66.n]) (fun j c hj => ef j _ (map_get hj)) rfl (by kernel_rfl) (by kernel_rfl)
         refine R_index 5 (Int.tmod x_v11 ((words.length : Nat) : Int)) rfl rfl (rfl) rfl (by decide) em (by rfl) (by rfl) (by rfl) ee (by rfl) hf hg (by kernel_rfl) fun ht (en : Kn 177 [(a, 0), (b5, c7 + (Int.tmod x_v11 ((words.length : Nat) : Int) : Int).toNat * 1)] ((tP 66 1 0) :: (tI 65 (Int.tmod x_v11 ((words.length : Nat) : Int))) :: (tI 64 ((words.length : Nat) : Int)) :: (tI 62 x_v11) :: (tS 61 a_words words.length c_words) :: (tI 14 x_v11) :: (tS 13 d x_v10.length e) :: (K7m6 day x29 miles a_words words c_words)) ht) => ?_
         refine Rk 6 3 ((tI 15 (IntKind.i64.wrap x66.n)) :: (tI 14 x_v11) :: (tS 13 d x_v10.length e) :: (K7m6 day x29 miles a_words words c_words)) en c0 fun i9 eo => ?_
         refine wf ?_
         obtain rfl := Option.some.inj x
         exact Exists.intro _ ⟨_, rfl, ((eo.keep [15, 14, 13, 12, 10, 9, 4, 1, 2] (by rfl)).cut 1 (by kernel_rfl)), (c0.cutPl 1 (by kernel_rfl)), (Heap.le_refl _)⟩
        ·
         rw [bg, cond_false] at x
         refine wp_skip ?_
         obtain rfl := Option.some.inj x
         exact Exists.intro _ ⟨_, rfl, bm.kp, ab, (Heap.le_refl _)⟩
       ·
        rintro _ kx ⟨b2, y, rfl, ep, ah, cq⟩
        replace a9 := a9.mono cq
        refine wp_region_G (by kernel_rfl) ?_
        replace ah := ah.drew
        refine wpG_of_D [] [(a, 0)] [⟨(K7c1 w_), some 48⟩] ?_
        refine Dr [0, 1, 2, 3, 4, 5, 6, 7, 8, 9, 10, 11, 12] (dn 12) ((tI 81 (IntKind.i64.wrap ((IntKind.i64.wrap (w_.daily.hi - w_.daily.lo)) + 1))) :: (tI 73 g) :: (tI 72 w_.daily.lo) :: (tS 69 d x_v10.length e) :: (tI 14 x_v11) :: (K7m6 day x29 miles a_words words c_words)) ep ah fun ja er => ?_
        obtain ⟨x82, ex82, p⟩ := bnd p
        refine D_rem 13 (fun _ _ _ _ _ h => h) er rfl rfl (rfl) rfl (by decide) (by kernel_rfl) (by kernel_rfl) ah.plOk (by rfl) (by rfl) (nz_some ex82) fun hu (es : Kn 177 [(a, 0)] ((tI 82 (Int.tmod g (IntKind.i64.wrap ((IntKind.i64.wrap (w_.daily.hi - w_.daily.lo)) + 1)))) :: (tI 81 (IntKind.i64.wrap ((IntKind.i64.wrap (w_.daily.hi - w_.daily.lo)) + 1))) :: (tI 73 g) :: (tI 72 w_.daily.lo) :: (tS 69 d x_v10.length e) :: (tI 14 x_v11) :: (K7m6 day x29 miles a_words words c_words)) hu) => ?_
        refine Dr [14] (dn 14) ((tI 83 (IntKind.i64.wrap (w_.daily.lo + (Int.tmod g (IntKind.i64.wrap ((IntKind.i64.wrap (w_.daily.hi - w_.daily.lo)) + 1)))))) :: (tS 69 d x_v10.length e) :: (tI 14 x_v11) :: (K7m6 day x29 miles a_words words c_words)) es ah fun jb et => ?_
        refine Dl 15 fun K hK => ?_
        refine wS 3 1 [.int .i64 (IntKind.i64.wrap (w_.daily.lo + (Int.tmod g (IntKind.i64.wrap ((IntKind.i64.wrap (w_.daily.hi - w_.daily.lo)) + 1)))))] et ah fun a4 hv ii (eu : Kn 177 [(a, 0)] ((tS 84 a4 1 1) :: (tI 83 (IntKind.i64.wrap (w_.daily.lo + (Int.tmod g (IntKind.i64.wrap ((IntKind.i64.wrap (w_.daily.hi - w_.daily.lo)) + 1)))))) :: (tS 69 d x_v10.length e) :: (tI 14 x_v11) :: (K7m6 day x29 miles a_words words c_words)) hv) (br : Mem ⟨w, h, noX⟩ y [(a, 0)] [⟨(K7c1 w_), some 48⟩] [⟨d, x_v10.length, e, 3, 1, u, 0⟩, ⟨a4, 1, 1, 3, 1, ([.int .i64 (IntKind.i64.wrap (w_.daily.lo + (Int.tmod g (IntKind.i64.wrap ((IntKind.i64.wrap (w_.daily.hi - w_.daily.lo)) + 1)))))] : List Value), 0⟩] ii) => ?_
        have bk : Cells y ([IntKind.i64.wrap (w_.daily.lo + (Int.tmod g (IntKind.i64.wrap ((IntKind.i64.wrap (w_.daily.hi - w_.daily.lo)) + 1))))] : List Int) ([.int .i64 (IntKind.i64.wrap (w_.daily.lo + (Int.tmod g (IntKind.i64.wrap ((IntKind.i64.wrap (w_.daily.hi - w_.daily.lo)) + 1)))))] : List Value) := ⟨_, _, rfl, (rep_int : rep y (IntKind.i64.wrap (w_.daily.lo + (Int.tmod g (IntKind.i64.wrap ((IntKind.i64.wrap (w_.daily.hi - w_.daily.lo)) + 1)))) : Int) _), rfl⟩
        refine hK _ _ br.plOk ?_
        obtain ⟨x85, ex85, p⟩ := bnd p
        obtain ⟨bx, g7⟩ := app_some ex85
        refine Dl 16 fun K hK => ?_
        refine wp_append 0 8 1 _ (x85.length) _ ([.int .i64 (IntKind.i64.wrap (w_.daily.lo + (Int.tmod g (IntKind.i64.wrap ((IntKind.i64.wrap (w_.daily.hi - w_.daily.lo)) + 1)))))] : List Value) eu br rfl rfl (by decide) rfl (by rfl) (by kernel_rfl) (by rfl) (by rfl) (Cells.len bk) (br.rowCell (i := 1) rfl) bk.one (by rw [bx]; simp <;> omega) (by rw [bx]; exact g7) (by decide) fun ak al b7 hx ij ei (ev : Kn 177 [(a, 0)] ((tS 85 ak x85.length al) :: (tS 84 a4 1 1) :: (tI 83 (IntKind.i64.wrap (w_.daily.lo + (Int.tmod g (IntKind.i64.wrap ((IntKind.i64.wrap (w_.daily.hi - w_.daily.lo)) + 1)))))) :: (tS 69 d x_v10.length e) :: (tI 14 x_v11) :: (K7m6 day x29 miles a_words words c_words)) hx) (ba : Mem ⟨w, h, noX⟩ y [(a, 0)] [⟨(K7c1 w_), some 48⟩] [⟨ak, x85.length, al, 3, 1, (u ++ ([.int .i64 (IntKind.i64.wrap (w_.daily.lo + (Int.tmod g (IntKind.i64.wrap ((IntKind.i64.wrap (w_.daily.hi - w_.daily.lo)) + 1)))))] : List Value)), b7⟩, ⟨a4, 1, 1, 3, 1, ([.int .i64 (IntKind.i64.wrap (w_.daily.lo + (Int.tmod g (IntKind.i64.wrap ((IntKind.i64.wrap (w_.daily.hi - w_.daily.lo)) + 1)))))] : List Value), 0⟩] ij) => ?_
        have eg : Cells y x85 (u ++ ([.int .i64 (IntKind.i64.wrap (w_.daily.lo + (Int.tmod g (IntKind.i64.wrap ((IntKind.i64.wrap (w_.daily.hi - w_.daily.lo)) + 1)))))] : List Value)) := by rw [bx]; exact Cells.append a9 bk
        obtain rfl : b7 = 0 := Nat.le_zero.1 ei
        refine hK _ _ ba.plOk ?_
        refine Dr [17] (dn 17) ((tS 13 ak x85.length al) :: (tI 14 x_v11) :: (K7m6 day x29 miles a_words words c_words)) ev ba fun jc ex => ?_
        refine wpD_end (by kernel_rfl) (wp_region_from (Rk 0 3 ((tI 14 (IntKind.i64.wrap (x_v11 + 1))) :: (tS 13 ak x85.length al) :: (K7m6 day x29 miles a_words words c_words)) ex ba fun jd ey => ?_))
        refine wf ?_
        exact Exists.intro bz ⟨Nat.lt_succ_self _, Exists.intro x85 ⟨(IntKind.i64.wrap (x_v11 + 1)), ak, al, (u ++ ([.int .i64 (IntKind.i64.wrap (w_.daily.lo + (Int.tmod g (IntKind.i64.wrap ((IntKind.i64.wrap (w_.daily.hi - w_.daily.lo)) + 1)))))] : List Value)), _, _, rfl, ey.kp, (ba.cutRw 1), (Heap.le_trans bq cq), eg, p⟩⟩
      ·
       rw [bf, cond_false] at p
       refine wp_exit ?_
       obtain rfl := Option.some.inj p
       exact Exists.intro d ⟨e, u, _, _, rfl, bl.kp, ab, bq, a9⟩
    ·
     rintro _ ky ⟨m, o, af, b0, am, rfl, ez, ac, iz, aa⟩
     refine wp_seq (wp_region_G (by kernel_rfl) ?_)
     replace ac := ac.drew
     refine wpG_of_D [] [(a, 0)] [⟨(K7c1 w_), some 48⟩] ?_
     refine Dr [0, 2, 3, 4, 5, 6, 7, 8, 9, 10, 11, 12, 13, 14] [14, 13, 12, 11, 10, 9, 8, 7, 6, 5, 4, 3, 2, 0] ((tI 101 (IntKind.i64.wrap ((IntKind.i64.wrap (w_.miles.hi - w_.miles.lo)) + 1))) :: (tI 93 (IntKind.i64.wrap miles.n)) :: (tI 91 w_.miles.lo) :: (tA 87 (K7c1 w_)) :: (tS 13 m l.length o) :: (K7m9 day x29)) ez ac fun je e0 => ?_
     obtain ⟨x102, ex102, H⟩ := bnd H
     refine D_rem 15 (fun _ _ _ _ _ h => h) e0 rfl rfl (rfl) rfl (by decide) (by kernel_rfl) (by kernel_rfl) ac.plOk (by rfl) (by rfl) (nz_some ex102) fun hy (e1 : Kn 177 [(a, 0)] ((tI 102 (Int.tmod (IntKind.i64.wrap miles.n) (IntKind.i64.wrap ((IntKind.i64.wrap (w_.miles.hi - w_.miles.lo)) + 1)))) :: (tI 101 (IntKind.i64.wrap ((IntKind.i64.wrap (w_.miles.hi - w_.miles.lo)) + 1))) :: (tI 93 (IntKind.i64.wrap miles.n)) :: (tI 91 w_.miles.lo) :: (tA 87 (K7c1 w_)) :: (tS 13 m l.length o) :: (K7m9 day x29)) hy) => ?_
     refine Dr [16, 17] [17, 16, 15, 14, 13, 12, 11, 10, 9, 8, 7, 6, 5, 4, 3, 2, 0] (K7m11 m l o w_ miles day x29) e1 ac fun jg e2 => ?_
     obtain ⟨x88, ex88, H⟩ := bnd H
     refine Dl 1 fun K hK => ?_
     refine wc [.agg (K7c1 w_)] e2 ac (law_Wear_ok n ac.has w_ ((rep_pair (rep_pair rep_int rep_int) (rep_pair (rep_pair rep_int rep_int) (rep_pair rep_int (rep_pair rep_int rep_int)))) : rep am w_ _) ex88) fun kg ip ik dr g9 bs => ?_
     obtain ⟨_, rfl, ⟨_, _, rfl, ⟨_, _, rfl, rfl, rfl⟩, ⟨_, _, rfl, ⟨_, _, rfl, rfl, rfl⟩, ⟨_, _, rfl, rfl, ⟨_, _, rfl, rfl, rfl⟩⟩⟩⟩⟩ := dr
     refine ⟨.one (.agg (K7c3 x88)), rfl, fun hz (e3 : Kn 177 [(a, 0)] ((tA 88 (K7c3 x88)) :: (K7m11 m l o w_ miles day x29)) hz) => hK _ _ bs.plOk ?_⟩
     obtain ⟨bd, ha, ho, bb⟩ := bs.settle (i := 0) rfl
     replace aa := aa.mono (Heap.le_trans g9 ha)
     replace bb : Mem ⟨w, h, noX⟩ bd [(a, 0)] [⟨(K7c1 w_), some 48⟩] [⟨m, l.length, o, 3, 1, af, (af : List Value).length⟩] ik := bb
     have a3 : RepS bd m o l := ⟨_, aa, ho, bs.rowCap (i := 0) rfl⟩
     obtain ⟨x105, ex105, H⟩ := bnd H
     refine Dl 18 fun K hK => ?_
     refine wc [.agg (K7c3 x88), .c (.int .i64 (IntKind.i64.wrap (w_.miles.lo + (Int.tmod (IntKind.i64.wrap miles.n) (IntKind.i64.wrap ((IntKind.i64.wrap (w_.miles.hi - w_.miles.lo)) + 1)))))), .c (.slice m l.length o)] e3 bb (pit_Over_ok n bb.has x88 ((rep_pair (rep_pair rep_int rep_int) (rep_pair (rep_pair rep_int rep_int) (rep_pair rep_int (rep_pair rep_int rep_int)))) : rep bd x88 _) (IntKind.i64.wrap (w_.miles.lo + (Int.tmod (IntKind.i64.wrap miles.n) (IntKind.i64.wrap ((IntKind.i64.wrap (w_.miles.hi - w_.miles.lo)) + 1))))) l a3 ex105) fun kh d7 kz ds cr ad => ?_
     obtain ⟨_, _, rfl, rfl, rfl⟩ := ds
     refine ⟨.tup [.c (.bool x105.1), .c (.int .i64 x105.2)], rfl, fun h1 (e4 : Kn 177 [(a, 0)] ((105, .tup [.c (.bool x105.1), .c (.int .i64 x105.2)]) :: (tA 88 (K7c3 x88)) :: (K7m11 m l o w_ miles day x29)) h1) => hK _ _ ad.plOk ?_⟩
     refine Dr [19, 20, 21, 22, 23] [23, 22, 21, 20, 19, 18, 1, 17, 16, 15, 14, 13, 12, 11, 10, 9, 8, 7, 6, 5, 4, 3, 2, 0] ((tI 17 x105.2) :: (tB 16 x105.1) :: (K7m9 day x29)) e4 ad fun jh e5 => ?_
     refine wpD_end (by kernel_rfl) (wp_seq (wp_region_G (by kernel_rfl) ?_))
     replace ad := ad.drew
     refine wpG_of_D [] [(a, 0)] [⟨(K7c1 w_), some 48⟩] ?_
     refine Dr [0, 2, 3, 4, 5, 6, 7, 8] [8, 7, 6, 5, 4, 3, 2, 0] ((tI 117 x29.1) :: (tI 116 w_.daily.hi) :: (tI 113 w_.miles.hi) :: (tA 109 (K7c1 w_)) :: (tI 17 x105.2) :: (tB 16 x105.1) :: (K7m9 day x29)) e5 ad fun ji e6 => ?_
     obtain ⟨x110, ex110, H⟩ := bnd H
     refine Dl 1 fun K hK => ?_
     refine wc [.agg (K7c1 w_)] e6 ad (law_Wear_ok n ad.has w_ ((rep_pair (rep_pair rep_int rep_int) (rep_pair (rep_pair rep_int rep_int) (rep_pair rep_int (rep_pair rep_int rep_int)))) : rep d7 w_ _) ex110) fun kj iq k0 dt ct bt => ?_
     obtain ⟨_, rfl, ⟨_, _, rfl, ⟨_, _, rfl, rfl, rfl⟩, ⟨_, _, rfl, ⟨_, _, rfl, rfl, rfl⟩, ⟨_, _, rfl, rfl, ⟨_, _, rfl, rfl, rfl⟩⟩⟩⟩⟩ := dt
     refine ⟨.one (.agg (K7c4 x110)), rfl, fun h2 (e7 : Kn 177 [(a, 0)] ((tA 110 (K7c4 x110)) :: (tI 117 x29.1) :: (tI 116 w_.daily.hi) :: (tI 113 w_.miles.hi) :: (tA 109 (K7c1 w_)) :: (tI 17 x105.2) :: (tB 16 x105.1) :: (K7m9 day x29)) h2) => hK _ _ bt.plOk ?_⟩
     obtain ⟨x118, ex118, H⟩ := bnd H
     refine Dl 9 fun K hK => ?_
     refine wc [.c (.int .i64 w_.daily.hi), .c (.int .i64 x29.1)] e7 bt (ref_Days_ok n bt.has w_.daily.hi x29.1 ex118) fun kk d8 k1 du cu bu => ?_
     obtain ⟨a5, a7, rfl, hl⟩ := du
     refine ⟨.one (.c (.slice a5 x118.length a7)), rfl, fun h3 (e8 : Kn 177 [(a, 0)] ((tS 118 a5 x118.length a7) :: (tA 110 (K7c4 x110)) :: (tI 117 x29.1) :: (tI 116 w_.daily.hi) :: (tI 113 w_.miles.hi) :: (tA 109 (K7c1 w_)) :: (tI 17 x105.2) :: (tB 16 x105.1) :: (K7m9 day x29)) h3) => hK _ _ bu.plOk ?_⟩
     obtain ⟨x119, ex119, H⟩ := bnd H
     refine Dl 10 fun K hK => ?_
     refine wc [.agg (K7c4 x110), .c (.int .i64 w_.miles.hi), .c (.slice a5 x118.length a7)] e8 bu (pit_Over_ok n bu.has x110 ((rep_pair (rep_pair rep_int rep_int) (rep_pair (rep_pair rep_int rep_int) (rep_pair rep_int (rep_pair rep_int rep_int)))) : rep d8 x110 _) w_.miles.hi x118 hl ex119) fun kl d9 k3 dv cv ae => ?_
     obtain ⟨_, _, rfl, rfl, rfl⟩ := dv
     refine ⟨.tup [.c (.bool x119.1), .c (.int .i64 x119.2)], rfl, fun h4 (e9 : Kn 177 [(a, 0)] ((119, .tup [.c (.bool x119.1), .c (.int .i64 x119.2)]) :: (tS 118 a5 x118.length a7) :: (tA 110 (K7c4 x110)) :: (tI 117 x29.1) :: (tI 116 w_.daily.hi) :: (tI 113 w_.miles.hi) :: (tA 109 (K7c1 w_)) :: (tI 17 x105.2) :: (tB 16 x105.1) :: (K7m9 day x29)) h4) => hK _ _ ae.plOk ?_⟩
     refine Dr [11, 12, 13, 14, 15] [15, 14, 13, 12, 11, 10, 9, 1, 8, 7, 6, 5, 4, 3, 2, 0] ((tI 19 x119.2) :: (tB 18 x119.1) :: (tI 17 x105.2) :: (tB 16 x105.1) :: (K7m9 day x29)) e9 ae fun jj fa => ?_
     refine wpD_end (by kernel_rfl) (wp_seq (wp_region_G (by kernel_rfl) ?_))
     replace ae := ae.drew
     refine wpG_of_D [] [(a, 0)] [⟨(K7c1 w_), some 48⟩] ?_
     refine Dr [0, 2, 3, 4, 5, 6, 7, 8, 9, 10] [10, 9, 8, 7, 6, 5, 4, 3, 2, 0] (K7m10 x29 w_ x119 x105 day) fa ae fun jk fb => ?_
     obtain ⟨x124, ex124, H⟩ := bnd H
     refine Dl 1 fun K hK => ?_
     refine wc [.agg (K7c1 w_)] fb ae (law_Wear_ok n ae.has w_ ((rep_pair (rep_pair rep_int rep_int) (rep_pair (rep_pair rep_int rep_int) (rep_pair rep_int (rep_pair rep_int rep_int)))) : rep d9 w_ _) ex124) fun km iu k4 dx cw bv => ?_
     obtain ⟨_, rfl, ⟨_, _, rfl, ⟨_, _, rfl, rfl, rfl⟩, ⟨_, _, rfl, ⟨_, _, rfl, rfl, rfl⟩, ⟨_, _, rfl, rfl, ⟨_, _, rfl, rfl, rfl⟩⟩⟩⟩⟩ := dx
     refine ⟨.one (.agg (K7c5 x124)), rfl, fun h5 (fc : Kn 177 [(a, 0)] ((tA 124 (K7c5 x124)) :: (K7m10 x29 w_ x119 x105 day)) h5) => hK _ _ bv.plOk ?_⟩
     obtain ⟨x134, ex134, H⟩ := bnd H
     refine Dl 11 fun K hK => ?_
     refine wc [.c (.int .i64 w_.daily.lo), .c (.int .i64 (if (IntKind.i64.wrap (x29.2.1 - 1)) > 0 then (IntKind.i64.wrap (x29.2.1 - 1)) else 0))] fc bv (ref_Days_ok n bv.has w_.daily.lo (if (IntKind.i64.wrap (x29.2.1 - 1)) > 0 then (IntKind.i64.wrap (x29.2.1 - 1)) else 0) ex134) fun kn ea k5 dy cx bw => ?_
     obtain ⟨a6, a8, rfl, hn⟩ := dy
     refine ⟨.one (.c (.slice a6 x134.length a8)), rfl, fun h6 (fd : Kn 177 [(a, 0)] ((tS 134 a6 x134.length a8) :: (tA 124 (K7c5 x124)) :: (K7m10 x29 w_ x119 x105 day)) h6) => hK _ _ bw.plOk ?_⟩
     obtain ⟨x135, ex135, H⟩ := bnd H
     refine Dl 12 fun K hK => ?_
     refine wc [.agg (K7c5 x124), .c (.int .i64 w_.miles.lo), .c (.slice a6 x134.length a8)] fd bw (pit_Over_ok n bw.has x124 ((rep_pair (rep_pair rep_int rep_int) (rep_pair (rep_pair rep_int rep_int) (rep_pair rep_int (rep_pair rep_int rep_int)))) : rep ea x124 _) w_.miles.lo x134 hn ex135) fun ko eb k6 dz cy f => ?_
     replace a3 := a3.mono (Heap.le_trans (Heap.le_trans (Heap.le_trans (Heap.le_trans (Heap.le_trans (Heap.le_trans cr ct) cu) cv) cw) cx) cy)
     replace aa := aa.mono (Heap.le_trans (Heap.le_trans (Heap.le_trans (Heap.le_trans (Heap.le_trans (Heap.le_trans cr ct) cu) cv) cw) cx) cy)
     obtain ⟨_, _, rfl, rfl, rfl⟩ := dz
     refine ⟨.tup [.c (.bool x135.1), .c (.int .i64 x135.2)], rfl, fun h7 (fe : Kn 177 [(a, 0)] ((135, .tup [.c (.bool x135.1), .c (.int .i64 x135.2)]) :: (tS 134 a6 x134.length a8) :: (tA 124 (K7c5 x124)) :: (K7m10 x29 w_ x119 x105 day)) h7) => hK _ _ f.plOk ?_⟩
     refine Dr [13, 14, 15, 16, 17] [17, 16, 15, 14, 13, 12, 11, 1, 10, 9, 8, 7, 6, 5, 4, 3, 2, 0] ((tI 21 x135.2) :: (tB 20 x135.1) :: (tI 19 x119.2) :: (tB 18 x119.1) :: (tI 17 x105.2) :: (K7m8 x105 day x29)) fe f fun jl ff => ?_
     refine wpD_end (by kernel_rfl) (wp_seq (wp_seq ?_))
     obtain ⟨c8, k, H⟩ := bnd H
     refine wp_mid' (fun a' w' => ∃ (b3 : Array Value) (be : Heap), a' = ⟨b3, []⟩ ∧ Kn 177 [(a, 0)] [(tB 16 x105.1), (tI 12 (Int.tmod (IntKind.i64.wrap day.n) 1001)), (tI 10 x29.2.1), (tI 9 x29.1), (tB 158 c8)] b3 ∧ Mem ⟨w, h, noX⟩ be [(a, 0)] [⟨(K7c1 w_), some 48⟩] [⟨m, l.length, o, 3, 1, af, (af : List Value).length⟩] w' ∧ Heap.le eb be) ?_ ?_
     ·
      refine wp_region_from (Rk 0 3 ((tB 140 (x105.2 != 0)) :: (tI 21 x135.2) :: (tB 20 x135.1) :: (tI 19 x119.2) :: (tB 18 x119.1) :: (K7m8 x105 day x29)) ff f fun da b8 => ?_)
      rcases Bool.eq_false_or_eq_true ((x105.2 != 0)) with an | an
      ·
       rw [an, cond_true] at k
       have fg : Kn 177 [(a, 0)] ((tB 140 true) :: (tI 21 x135.2) :: (tB 20 x135.1) :: (tI 19 x119.2) :: (tB 18 x119.1) :: (K7m8 x105 day x29)) da := (b8.setB 140 true (by rfl) an).kp
       refine Rk 3 18 ((tB 158 true) :: (K7m8 x105 day x29)) fg f fun jm fh => ?_
       refine wf ?_
       obtain rfl := Option.some.inj k
       exact Exists.intro _ ⟨_, rfl, fh.kp, f, (Heap.le_refl _)⟩
      ·
       rw [an, cond_false] at k
       have fi : Kn 177 [(a, 0)] ((tB 140 false) :: (tI 21 x135.2) :: (tB 20 x135.1) :: (tI 19 x119.2) :: (tB 18 x119.1) :: (K7m8 x105 day x29)) da := (b8.setB 140 false (by rfl) an).kp
       refine Rk 3 4 ((tB 144 (x119.2 != 0)) :: (tI 21 x135.2) :: (tB 20 x135.1) :: (tB 18 x119.1) :: (K7m8 x105 day x29)) fi f fun db b9 => ?_
       rcases Bool.eq_false_or_eq_true ((x119.2 != 0)) with ao | ao
       ·
        rw [ao, cond_true] at k
        have fk : Kn 177 [(a, 0)] ((tB 144 true) :: (tI 21 x135.2) :: (tB 20 x135.1) :: (tB 18 x119.1) :: (K7m8 x105 day x29)) db := (b9.setB 144 true (by rfl) ao).kp
        refine Rk 7 14 ((tB 158 true) :: (K7m8 x105 day x29)) fk f fun jn fl => ?_
        refine wf ?_
        obtain rfl := Option.some.inj k
        exact Exists.intro _ ⟨_, rfl, fl.kp, f, (Heap.le_refl _)⟩
       ·
        rw [ao, cond_false] at k
        have fm : Kn 177 [(a, 0)] ((tB 144 false) :: (tI 21 x135.2) :: (tB 20 x135.1) :: (tB 18 x119.1) :: (K7m8 x105 day x29)) db := (b9.setB 144 false (by rfl) ao).kp
        refine Rk 7 4 ((tB 148 (x135.2 != 0)) :: (tB 20 x135.1) :: (tB 18 x119.1) :: (K7m8 x105 day x29)) fm f fun dc ca => ?_
        rcases Bool.eq_false_or_eq_true ((x135.2 != 0)) with ap | ap
        ·
         rw [ap, cond_true] at k
         have fn : Kn 177 [(a, 0)] ((tB 148 true) :: (tB 20 x135.1) :: (tB 18 x119.1) :: (K7m8 x105 day x29)) dc := (ca.setB 148 true (by rfl) ap).kp
         refine Rk 11 10 ((tB 158 true) :: (K7m8 x105 day x29)) fn f fun jp fo => ?_
         refine wf ?_
         obtain rfl := Option.some.inj k
         exact Exists.intro _ ⟨_, rfl, fo.kp, f, (Heap.le_refl _)⟩
        ·
         rw [ap, cond_false] at k
         have fp : Kn 177 [(a, 0)] ((tB 148 false) :: (tB 20 x135.1) :: (tB 18 x119.1) :: (K7m8 x105 day x29)) dc := (ca.setB 148 false (by rfl) ap).kp
         refine Rk 11 4 ((tB 152 (!x119.1)) :: (tB 20 x135.1) :: (K7m8 x105 day x29)) fp f fun dd cb => ?_
         rcases Bool.eq_false_or_eq_true ((!x119.1)) with aq | aq
         ·
          rw [aq, cond_true] at k
          have fq : Kn 177 [(a, 0)] ((tB 152 true) :: (tB 20 x135.1) :: (K7m8 x105 day x29)) dd := (cb.setB 152 true (by rfl) aq).kp
          refine Rk 15 6 ((tB 158 true) :: (K7m8 x105 day x29)) fq f fun jq fr => ?_
          refine wf ?_
          obtain rfl := Option.some.inj k
          exact Exists.intro _ ⟨_, rfl, fr.kp, f, (Heap.le_refl _)⟩
         ·
          rw [aq, cond_false] at k
          have ft : Kn 177 [(a, 0)] ((tB 152 false) :: (tB 20 x135.1) :: (K7m8 x105 day x29)) dd := (cb.setB 152 false (by rfl) aq).kp
          refine Rk 15 3 ((tB 155 (decide (x29.2.1 > 0))) :: (tB 152 false) :: (tB 20 x135.1) :: (K7m8 x105 day x29)) ft f fun de cc => ?_
          rcases Bool.eq_false_or_eq_true (decide (x29.2.1 > 0)) with ar | ar
          ·
           rw [ar, cond_true] at k
           have fu : Kn 177 [(a, 0)] ((tB 155 true) :: (tB 152 false) :: (tB 20 x135.1) :: (K7m8 x105 day x29)) de := (cc.setB 155 true (by rfl) ar).kp
           refine Rk 18 3 ((tB 158 x135.1) :: (K7m8 x105 day x29)) fu f fun jr fv => ?_
           refine wf ?_
           obtain rfl := Option.some.inj k
           exact Exists.intro _ ⟨_, rfl, fv.kp, f, (Heap.le_refl _)⟩
          ·
           rw [ar, cond_false] at k
           have fw : Kn 177 [(a, 0)] ((tB 155 false) :: (tB 152 false) :: (tB 20 x135.1) :: (K7m8 x105 day x29)) de := (cc.setB 155 false (by rfl) ar).kp
           refine Rk 18 3 ((tB 158 false) :: (K7m8 x105 day x29)) fw f fun js fx => ?_
           refine wf ?_
           obtain rfl := Option.some.inj k
           exact Exists.intro _ ⟨_, rfl, fx.kp, f, (Heap.le_refl _)⟩
     ·
      rintro _ k7 ⟨b3, be, rfl, bo, b, cz⟩
      replace a3 := a3.mono cz
      replace aa := aa.mono cz
      refine wC (c8) bo (fun bi => ?_) (fun bi => ?_)
      ·
       rw [bi, cond_true] at H
       refine wp_seq (wp_region_from (Rk 0 1 [(tB 8 false)] bo b fun ju fy => ?_))
       refine wf (wp_ret ?_)
       obtain rfl := Option.some.inj H
       exact rt (.one (.c (.bool false))) fy b rfl
      ·
       rw [bi, cond_false] at H
       refine wp_skip (wp_seq (wp_region_from (Rk 0 4 [(tB 162 (decide ((Int.tmod (IntKind.i64.wrap day.n) 1001) ≥ x29.1))), (tB 16 x105.1), (tI 12 (Int.tmod (IntKind.i64.wrap day.n) 1001)), (tI 10 x29.2.1)] bo b fun df cd => ?_)))
       rcases Bool.eq_false_or_eq_true (decide ((Int.tmod (IntKind.i64.wrap day.n) 1001) ≥ x29.1)) with au | au
       ·
        rw [au, cond_true] at H
        have f0 : Kn 177 [(a, 0)] [(tB 162 true), (tB 16 x105.1), (tI 12 (Int.tmod (IntKind.i64.wrap day.n) 1001)), (tI 10 x29.2.1)] df := (cd.setB 162 true (by rfl) au).kp
        refine Rk 4 8 [(tB 170 (decide ((Int.tmod (IntKind.i64.wrap day.n) 1001) < x29.2.1))), (tB 166 true), (tB 16 x105.1)] f0 b fun dg ce => ?_
        rcases Bool.eq_false_or_eq_true (decide ((Int.tmod (IntKind.i64.wrap day.n) 1001) < x29.2.1)) with av | av
        ·
         rw [av, cond_true] at H
         have f1 : Kn 177 [(a, 0)] [(tB 170 true), (tB 166 true), (tB 16 x105.1)] dg := (ce.setB 170 true (by rfl) av).kp
         refine Rk 12 4 [(tB 174 true)] f1 b fun jv cf => ?_
         obtain ⟨x175, ex175, H⟩ := bnd H
         refine wpFrom_loud _ rfl (wantedS_sound cf (by kernel_rfl)) fun K hK => ?_
         refine wc [] cf b (law_wakes_ok n b.has  ex175) fun kq iv k8 d0 i1 c2 => ?_
         obtain rfl := d0
         refine ⟨.one (.c (.bool x175)), rfl, fun h9 (f2 : Kn 177 [(a, 0)] [(tB 175 x175), (tB 174 true)] h9) => hK _ _ ?_⟩
         refine Rk 17 2 [(tB 8 x175)] f2 c2 fun jw f3 => ?_
         refine wf (wp_ret ?_)
         obtain rfl := Option.some.inj H
         exact rt (.one (.c (.bool x175))) f3 c2 rfl
        ·
         rw [av, cond_false] at H
         have f4 : Kn 177 [(a, 0)] [(tB 170 false), (tB 166 true), (tB 16 x105.1)] dg := (ce.setB 170 false (by rfl) av).kp
         refine Rk 12 4 [(tB 174 x105.1)] f4 b fun dh cg => ?_
         rcases Bool.eq_false_or_eq_true (x105.1) with aw | aw
         ·
          rw [aw, cond_true] at H
          have ch : Kn 177 [(a, 0)] [(tB 174 true)] dh := (cg.setB 174 true (by rfl) aw).kp
          obtain ⟨x175, ex175, H⟩ := bnd H
          refine wpFrom_loud _ rfl (wantedS_sound ch (by kernel_rfl)) fun K hK => ?_
          refine wc [] ch b (law_wakes_ok n b.has  ex175) fun ks iw k9 d1 i2 c3 => ?_
          obtain rfl := d1
          refine ⟨.one (.c (.bool x175)), rfl, fun ia (f5 : Kn 177 [(a, 0)] [(tB 175 x175), (tB 174 true)] ia) => hK _ _ ?_⟩
          refine Rk 17 2 [(tB 8 x175)] f5 c3 fun jx f6 => ?_
          refine wf (wp_ret ?_)
          obtain rfl := Option.some.inj H
          exact rt (.one (.c (.bool x175))) f6 c3 rfl
         ·
          rw [aw, cond_false] at H
          have f7 : Kn 177 [(a, 0)] [(tB 174 false)] dh := (cg.setB 174 false (by rfl) aw).kp
          refine Rk 16 3 [(tB 8 false)] f7 b fun jy f8 => ?_
          refine wf (wp_ret ?_)
          obtain rfl := Option.some.inj H
          exact rt (.one (.c (.bool false))) f8 b rfl
       ·
        rw [au, cond_false] at H
        have f9 : Kn 177 [(a, 0)] [(tB 162 false), (tB 16 x105.1), (tI 12 (Int.tmod (IntKind.i64.wrap day.n) 1001)), (tI 10 x29.2.1)] df := (cd.setB 162 false (by rfl) au).kp
        refine Rk 4 4 [(tB 166 (!x105.1)), (tB 16 x105.1), (tI 12 (Int.tmod (IntKind.i64.wrap day.n) 1001)), (tI 10 x29.2.1)] f9 b fun di ci => ?_
        rcases Bool.eq_false_or_eq_true ((!x105.1)) with ax | ax
        ·
         rw [ax, cond_true] at H
         have ga : Kn 177 [(a, 0)] [(tB 166 true), (tB 16 x105.1), (tI 12 (Int.tmod (IntKind.i64.wrap day.n) 1001)), (tI 10 x29.2.1)] di := (ci.setB 166 true (by rfl) ax).kp
         refine Rk 8 4 [(tB 170 (decide ((Int.tmod (IntKind.i64.wrap day.n) 1001) < x29.2.1))), (tB 166 true), (tB 16 x105.1)] ga b fun dj cj => ?_
         rcases Bool.eq_false_or_eq_true (decide ((Int.tmod (IntKind.i64.wrap day.n) 1001) < x29.2.1)) with ay | ay
         ·
          rw [ay, cond_true] at H
          have gb : Kn 177 [(a, 0)] [(tB 170 true), (tB 166 true), (tB 16 x105.1)] dj := (cj.setB 170 true (by rfl) ay).kp
          refine Rk 12 4 [(tB 174 true)] gb b fun jz ck => ?_
          obtain ⟨x175, ex175, H⟩ := bnd H
          refine wpFrom_loud _ rfl (wantedS_sound ck (by kernel_rfl)) fun K hK => ?_
          refine wc [] ck b (law_wakes_ok n b.has  ex175) fun kt ix lb d3 i3 c4 => ?_
          obtain rfl := d3
          refine ⟨.one (.c (.bool x175)), rfl, fun ib (gc : Kn 177 [(a, 0)] [(tB 175 x175), (tB 174 true)] ib) => hK _ _ ?_⟩
          refine Rk 17 2 [(tB 8 x175)] gc c4 fun j0 gd => ?_
          refine wf (wp_ret ?_)
          obtain rfl := Option.some.inj H
          exact rt (.one (.c (.bool x175))) gd c4 rfl
         ·
          rw [ay, cond_false] at H
          have gf : Kn 177 [(a, 0)] [(tB 170 false), (tB 166 true), (tB 16 x105.1)] dj := (cj.setB 170 false (by rfl) ay).kp
          refine Rk 12 4 [(tB 174 x105.1)] gf b fun dk cl => ?_
          rcases Bool.eq_false_or_eq_true (x105.1) with az | az
          ·
           rw [az, cond_true] at H
           have cm : Kn 177 [(a, 0)] [(tB 174 true)] dk := (cl.setB 174 true (by rfl) az).kp
           obtain ⟨x175, ex175, H⟩ := bnd H
           refine wpFrom_loud _ rfl (wantedS_sound cm (by kernel_rfl)) fun K hK => ?_
           refine wc [] cm b (law_wakes_ok n b.has  ex175) fun ku iy lc d4 i4 c6 => ?_
           obtain rfl := d4
           refine ⟨.one (.c (.bool x175)), rfl, fun ic (gg : Kn 177 [(a, 0)] [(tB 175 x175), (tB 174 true)] ic) => hK _ _ ?_⟩
           refine Rk 17 2 [(tB 8 x175)] gg c6 fun j1 gh => ?_
           refine wf (wp_ret ?_)
           obtain rfl := Option.some.inj H
           exact rt (.one (.c (.bool x175))) gh c6 rfl
          ·
           rw [az, cond_false] at H
           have gi : Kn 177 [(a, 0)] [(tB 174 false)] dk := (cl.setB 174 false (by rfl) az).kp
           refine Rk 16 3 [(tB 8 false)] gi b fun j2 gj => ?_
           refine wf (wp_ret ?_)
           obtain rfl := Option.some.inj H
           exact rt (.one (.c (.bool false))) gj b rfl
        ·
         rw [ax, cond_false] at H
         have gk : Kn 177 [(a, 0)] [(tB 166 false), (tB 16 x105.1), (tI 12 (Int.tmod (IntKind.i64.wrap day.n) 1001)), (tI 10 x29.2.1)] di := (ci.setB 166 false (by rfl) ax).kp
         refine Rk 8 11 [(tB 8 false)] gk b fun j3 gl => ?_
         refine wf (wp_ret ?_)
         obtain rfl := Option.some.inj H
         exact rt (.one (.c (.bool false))) gl b rfl
end Go.Proofs.Ytkbphdjemgibnaa
