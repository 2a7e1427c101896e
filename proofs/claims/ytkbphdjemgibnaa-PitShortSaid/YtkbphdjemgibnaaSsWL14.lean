/- Each call computes its plain function. -/
import Derived.Test.YtkbphdjemgibnaaProg
import Derived.Test.YtkbphdjemgibnaaSsP0
import Derived.Test.YtkbphdjemgibnaaSsWB
import Derived.Test.YtkbphdjemgibnaaSsWC
import Derived.Test.YtkbphdjemgibnaaSsWU
import Derived.Test.YtkbphdjemgibnaaSsWV
import Derived.Test.YtkbphdjemgibnaaSsWW
set_option linter.all false
namespace Go.Proofs.Ytkbphdjemgibnaa
open Go Go.RowKit
open Rep (rep)
open KRep (kv)
open VRep (rv)
abbrev K14c1 (x89 : Job) : List SC := [.int .i64 x89.due, .int .i64 x89.work, .int .i64 x89.cost]
abbrev K14c2 (i : Option Addr) (x26 : (List Int) × Int × Int) (k : Nat) (a_plan : Option Addr) (plan : List Int) (c_plan : Nat) : List SC := [.slice i x26.1.length k, .slice a_plan plan.length c_plan]
abbrev K14c3 (b : Option Addr) (s : Shop) (d : Nat) (f : Option Addr) (g : Nat) : List SC := [.slice b s.buses.length d, .int .i64 s.days, .slice f s.pits.length g]
abbrev K14c4 (ai : Option Addr) (x69 : Shop) (ak : Nat) (aj : Option Addr) (al : Nat) : List SC := [.slice ai x69.buses.length ak, .int .i64 x69.days, .slice aj x69.pits.length al]
abbrev K14e5 (a e p u : Nat) (x_v20 : Int) (aa ab : Nat) : Env := [(a, 0), (e, 0), (p, u + (x_v20 : Int).toNat * 3), (aa, ab + (x_v20 : Int).toNat * 1)]
abbrev K14m6 (x_v10 : Int) (x33 : Int × Int) : TM := [(tI 11 x_v10), (tP 10 1 0), (tI 8 x33.1), (tP 2 0 0)]
abbrev K14m7 (a_plan : Option Addr) (plan : List Int) (c_plan : Nat) : TM := [(tP 2 0 0), (tS 1 a_plan plan.length c_plan)]
abbrev K14m8 (x_v20 x_v10 : Int) (x33 : Int × Int) : TM := (tB 94 true) :: (tB 85 false) :: (tI 13 x_v20) :: (K14m6 x_v10 x33)
set_option maxRecDepth 100000 in
set_option maxHeartbeats 4000000 in
theorem law_PitShort_ok (n : Nat) {h : Heap} {w : World} (hh : Has h w) (s : Shop) {cs_s : List Value} (hx_s : rep h s cs_s) (plan : List Int) {a_plan : Option Addr} {c_plan : Nat} (hr_plan : RepS h a_plan c_plan plan) {r : Bool} (H : law_PitShort n s plan = some r) :
  Calls Try.prog 14 #[.agg cs_s.toArray, .slice a_plan plan.length c_plan] w (Ret (fun h v => v = .bool r) h w) := by
 obtain ⟨_, _, rfl, ⟨b, d, rfl, o⟩, ⟨_, _, rfl, rfl, ⟨f, g, rfl, q⟩⟩⟩ := hx_s
 refine enter 122 [.agg (K14c3 b s d f g), .c (.slice a_plan plan.length c_plan)] Try.func14 rfl rfl rfl rfl fun t hk => ?_
 have hm := Mem.begin h w hh
 unfold law_PitShort at H
 refine wp_seq (wp_region_from (wl fun K hK => ?_))
 refine wb (.agg (K14c3 b s d f g)) hk hm fun a jl jp (ff : Kn 122 [(a, 0)] [(tP 2 0 0), (tA 0 (K14c3 b s d f g)), (tS 1 a_plan plan.length c_plan)] jl) (bz : Mem ⟨w, h, noX⟩ h [(a, 0)] [⟨(K14c3 b s d f g), some 74⟩] [] jp) => hK _ _ ?_
 refine Rk 1 1 (K14m7 a_plan plan c_plan) ff bz fun j7 fn => ?_
 refine wf (wp_seq (wp_seq ?_))
 obtain ⟨c3, aw, H⟩ := bnd H
 refine wp_mid' (fun a' w' => ∃ (c6 : Array Value) (bs : Heap), a' = ⟨c6, []⟩ ∧ Kn 122 [(a, 0)] [(tP 2 0 0), (tS 1 a_plan plan.length c_plan), (tB 21 c3)] c6 ∧ Mem ⟨w, h, noX⟩ bs [(a, 0)] [⟨(K14c3 b s d f g), some 74⟩] [] w' ∧ Heap.le h bs) ?_ ?_
 ·
  refine wp_region_from (Rk 0 1 ((tA 14 (K14c3 b s d f g)) :: (K14m7 a_plan plan c_plan)) fn bz fun kf f1 => ?_)
  obtain ⟨x15, ex15, aw⟩ := bnd aw
  refine wl fun K hK => ?_
  refine wc [.agg (K14c3 b s d f g)] f1 bz (law_small_ok n bz.has s ((rep_pair (rep_slice o) (rep_pair rep_int (rep_slice q))) : rep h s _) ex15) fun lh jv lx eo d0 a8 => ?_
  obtain rfl := eo
  refine ⟨.one (.c (.bool x15)), rfl, fun i6 (gc : Kn 122 [(a, 0)] ((tB 15 x15) :: (tA 14 (K14c3 b s d f g)) :: (K14m7 a_plan plan c_plan)) i6) => hK _ _ ?_⟩
  refine Rk 2 2 ((tB 17 (!x15)) :: (K14m7 a_plan plan c_plan)) gc a8 fun ei ds => ?_
  rcases Bool.eq_false_or_eq_true ((!x15)) with a5 | a5
  ·
   rw [a5, cond_true] at aw
   have gk : Kn 122 [(a, 0)] ((tB 17 true) :: (K14m7 a_plan plan c_plan)) ei := (ds.setB 17 true (by rfl) a5).kp
   refine Rk 4 4 ((tB 21 true) :: (K14m7 a_plan plan c_plan)) gk a8 fun ku gn => ?_
   refine wf ?_
   obtain rfl := Option.some.inj aw
   exact Exists.intro _ ⟨_, rfl, gn.kp, a8, d0⟩
  ·
   rw [a5, cond_false] at aw
   have gq : Kn 122 [(a, 0)] ((tB 17 false) :: (K14m7 a_plan plan c_plan)) ei := (ds.setB 17 false (by rfl) a5).kp
   refine Rk 4 4 ((tB 21 (decide (((plan.length : Nat) : Int) > 12))) :: (K14m7 a_plan plan c_plan)) gq a8 fun kx gx => ?_
   refine wf ?_
   obtain rfl := Option.some.inj aw
   exact Exists.intro _ ⟨_, rfl, gx.kp, a8, d0⟩
 ·
  rintro _ l1 ⟨c6, bs, rfl, cq, a9, ct⟩
  replace o := o.mono ct
  replace q := q.mono ct
  replace hr_plan := hr_plan.mono ct
  refine wC (c3) cq (fun ce => ?_) (fun ce => ?_)
  ·
   rw [ce, cond_true] at H
   refine wp_seq (wp_region_from ?_)
   obtain ⟨x22, ex22, H⟩ := bnd H
   refine wl fun K hK => ?_
   refine wc [] cq a9 (law_wakes_ok n a9.has  ex22) fun ll jy l5 et j2 d5 => ?_
   obtain rfl := et
   refine ⟨.one (.c (.bool x22)), rfl, fun ji (hc : Kn 122 [(a, 0)] [(tB 22 x22), (tP 2 0 0), (tS 1 a_plan plan.length c_plan), (tB 21 c3)] ji) => hK _ _ ?_⟩
   refine Rk 1 1 [(tB 4 x22)] hc d5 fun lb hd => ?_
   refine wf (wp_ret ?_)
   obtain rfl := Option.some.inj H
   exact rt (.one (.c (.bool x22))) hd d5 rfl
  ·
   rw [ce, cond_false] at H
   refine wp_skip (wp_seq (wp_region_from (Rk 0 1 ((tA 24 (K14c3 b s d f g)) :: (K14m7 a_plan plan c_plan)) cq a9 fun lc he => ?_)))
   obtain ⟨x25, ex25, H⟩ := bnd H
   refine wl fun K hK => ?_
   refine wc [.agg (K14c3 b s d f g)] he a9 (law_Shop_ok n a9.has s ((rep_pair (rep_slice o) (rep_pair rep_int (rep_slice q))) : rep bs s _) ex25) fun ln ez l6 eu cu d6 => ?_
   obtain ⟨_, rfl, ⟨_, _, rfl, ⟨bc, bk, rfl, ic⟩, ⟨_, _, rfl, rfl, ⟨bd, bl, rfl, ie⟩⟩⟩⟩ := eu
   refine ⟨.one (.agg [.slice bc x25.buses.length bk, .int .i64 x25.days, .slice bd x25.pits.length bl]), rfl, fun jj (hf : Kn 122 [(a, 0)] ((tA 25 [.slice bc x25.buses.length bk, .int .i64 x25.days, .slice bd x25.pits.length bl]) :: (tA 24 (K14c3 b s d f g)) :: (K14m7 a_plan plan c_plan)) jj) => hK _ _ ?_⟩
   obtain ⟨x26, ex26, H⟩ := bnd H
   refine wl fun K hK => ?_
   refine wc [.agg [.slice bc x25.buses.length bk, .int .i64 x25.days, .slice bd x25.pits.length bl]] hf d6 (pit_Best_ok n d6.has x25 ((rep_pair (rep_slice ic) (rep_pair rep_int (rep_slice ie))) : rep ez x25 _) ex26) fun lo e0 l7 ev cv b1 => ?_
   replace o := o.mono (Heap.le_trans cu cv)
   replace q := q.mono (Heap.le_trans cu cv)
   obtain ⟨_, _, _, rfl, ⟨i, k, rfl, x⟩, rfl, rfl⟩ := ev
   refine ⟨.tup [.c (.slice i x26.1.length k), .c (.int .i64 x26.2.1), .c (.int .i64 x26.2.2)], rfl, fun jk (hg : Kn 122 [(a, 0)] ((26, .tup [.c (.slice i x26.1.length k), .c (.int .i64 x26.2.1), .c (.int .i64 x26.2.2)]) :: (tA 25 [.slice bc x25.buses.length bk, .int .i64 x25.days, .slice bd x25.pits.length bl]) :: (tA 24 (K14c3 b s d f g)) :: (K14m7 a_plan plan c_plan)) jk) => hK _ _ ?_⟩
   refine Rk 3 7 ((tI 7 x26.2.2) :: (tS 5 i x26.1.length k) :: (K14m7 a_plan plan c_plan)) hg b1 fun ld hi => ?_
   refine wf (wp_seq (wp_region_from (Rk 0 1 ((tA 31 (K14c3 b s d f g)) :: (tI 7 x26.2.2) :: (tS 5 i x26.1.length k) :: (K14m7 a_plan plan c_plan)) hi b1 fun lf hl => ?_)))
   obtain ⟨x32, ex32, H⟩ := bnd H
   refine wl fun K hK => ?_
   refine wc [.agg (K14c3 b s d f g)] hl b1 (law_Shop_ok n b1.has s ((rep_pair (rep_slice o) (rep_pair rep_int (rep_slice q))) : rep e0 s _) ex32) fun lp e1 l8 ew bx d7 => ?_
   obtain ⟨_, rfl, ⟨_, _, rfl, ⟨be, bm, rfl, ig⟩, ⟨_, _, rfl, rfl, ⟨bf, bn, rfl, ih⟩⟩⟩⟩ := ew
   refine ⟨.one (.agg [.slice be x32.buses.length bm, .int .i64 x32.days, .slice bf x32.pits.length bn]), rfl, fun jm (hn : Kn 122 [(a, 0)] ((tA 32 [.slice be x32.buses.length bm, .int .i64 x32.days, .slice bf x32.pits.length bn]) :: (tA 31 (K14c3 b s d f g)) :: (tI 7 x26.2.2) :: (tS 5 i x26.1.length k) :: (K14m7 a_plan plan c_plan)) jm) => hK _ _ ?_⟩
   obtain ⟨x33, ex33, H⟩ := bnd H
   refine wl fun K hK => ?_
   refine wc [.agg [.slice be x32.buses.length bm, .int .i64 x32.days, .slice bf x32.pits.length bn]] hn d7 (pit_Short_ok n d7.has x32 ((rep_pair (rep_slice ig) (rep_pair rep_int (rep_slice ih))) : rep e1 x32 _) ex33) fun lq e2 l9 ex bu ay => ?_
   replace o := o.mono (Heap.le_trans bx bu)
   replace q := q.mono (Heap.le_trans bx bu)
   replace hr_plan := hr_plan.mono (Heap.le_trans (Heap.le_trans (Heap.le_trans cu cv) bx) bu)
   replace x := x.mono (Heap.le_trans bx bu)
   obtain ⟨_, _, rfl, rfl, rfl⟩ := ex
   refine ⟨.tup [.c (.int .i64 x33.1), .c (.int .i64 x33.2)], rfl, fun iz (fg : Kn 122 [(a, 0)] ((33, .tup [.c (.int .i64 x33.1), .c (.int .i64 x33.2)]) :: (tA 32 [.slice be x32.buses.length bm, .int .i64 x32.days, .slice bf x32.pits.length bn]) :: (tA 31 (K14c3 b s d f g)) :: (tI 7 x26.2.2) :: (tS 5 i x26.1.length k) :: (K14m7 a_plan plan c_plan)) iz) => hK _ _ ?_⟩
   refine Rk 3 5 ((tI 9 x33.2) :: (tI 8 x33.1) :: (tI 7 x26.2.2) :: (tS 5 i x26.1.length k) :: (K14m7 a_plan plan c_plan)) fg ay fun j4 fh => ?_
   refine wf (wp_seq (wp_seq ?_))
   obtain ⟨d8, bq, H⟩ := bnd H
   refine wp_mid' (fun a' w' => ∃ (c4 : Array Value) (a0 : Heap), a' = ⟨c4, []⟩ ∧ Kn 122 [(a, 0)] [(tI 9 x33.2), (tI 8 x33.1), (tS 5 i x26.1.length k), (tP 2 0 0), (tS 1 a_plan plan.length c_plan), (tB 45 d8)] c4 ∧ Mem ⟨w, h, noX⟩ a0 [(a, 0)] [⟨(K14c3 b s d f g), some 74⟩] [] w' ∧ Heap.le e2 a0) ?_ ?_
   ·
    refine wp_region_from (Rk 0 3 ((tB 38 (x26.2.2 != 0)) :: (tI 9 x33.2) :: (tI 8 x33.1) :: (tS 5 i x26.1.length k) :: (K14m7 a_plan plan c_plan)) fh ay fun ee di => ?_)
    rcases Bool.eq_false_or_eq_true ((x26.2.2 != 0)) with a1 | a1
    ·
     rw [a1, cond_true] at bq
     have fi : Kn 122 [(a, 0)] ((tB 38 true) :: (tI 9 x33.2) :: (tI 8 x33.1) :: (tS 5 i x26.1.length k) :: (K14m7 a_plan plan c_plan)) ee := (di.setB 38 true (by rfl) a1).kp
     refine Rk 3 7 ((tB 45 true) :: (tI 9 x33.2) :: (tI 8 x33.1) :: (tS 5 i x26.1.length k) :: (K14m7 a_plan plan c_plan)) fi ay fun j5 fj => ?_
     refine wf ?_
     obtain rfl := Option.some.inj bq
     exact Exists.intro _ ⟨_, rfl, fj.kp, ay, (Heap.le_refl _)⟩
    ·
     rw [a1, cond_false] at bq
     have fk : Kn 122 [(a, 0)] ((tB 38 false) :: (tI 9 x33.2) :: (tI 8 x33.1) :: (tS 5 i x26.1.length k) :: (K14m7 a_plan plan c_plan)) ee := (di.setB 38 false (by rfl) a1).kp
     refine Rk 3 7 ((tB 45 (((x26.1.length : Nat) : Int) != ((s.buses.length : Nat) : Int))) :: (tI 9 x33.2) :: (tI 8 x33.1) :: (tS 5 i x26.1.length k) :: (K14m7 a_plan plan c_plan)) fk ay fun j6 fl => ?_
     refine wf ?_
     obtain rfl := Option.some.inj bq
     exact Exists.intro _ ⟨_, rfl, fl.kp, ay, (Heap.le_refl _)⟩
   ·
    rintro _ lr ⟨c4, a0, rfl, cg, y, bv⟩
    replace o := o.mono bv
    replace q := q.mono bv
    replace hr_plan := hr_plan.mono bv
    replace x := x.mono bv
    refine wC (d8) cg (fun b8 => ?_) (fun b8 => ?_)
    ·
     rw [b8, cond_true] at H
     refine wp_seq (wp_region_from (Rk 0 1 [(tB 4 false)] cg y fun j8 fm => ?_))
     refine wf (wp_ret ?_)
     obtain rfl := Option.some.inj H
     exact rt (.one (.c (.bool false))) fm y rfl
    ·
     rw [b8, cond_false] at H
     refine wp_skip (wp_seq (wp_seq (wp_region_from (Rk 0 2 ((tB 47 (x33.2 != 0)) :: (tI 9 x33.2) :: (tI 8 x33.1) :: (tS 5 i x26.1.length k) :: (K14m7 a_plan plan c_plan)) cg y fun j9 ch => ?_))))
     refine wf (wC ((x33.2 != 0)) ch (fun b9 => ?_) (fun b9 => ?_))
     ·
      rw [b9, cond_true] at H
      refine wp_seq ?_
      obtain ⟨d9, av, H⟩ := bnd H
      refine wp_mid' (fun a' w' => ∃ (c5 : Array Value) (b5 : Heap), a' = ⟨c5, []⟩ ∧ Kn 122 [(a, 0)] [(tB 4 d9)] c5 ∧ Mem ⟨w, h, noX⟩ b5 [(a, 0)] [⟨(K14c3 b s d f g), some 74⟩] [] w' ∧ Heap.le a0 b5) ?_ ?_
      ·
       refine wp_region_from (Rk 0 3 [(tB 50 (x33.2 == 7))] ch y fun ef dj => ?_)
       rcases Bool.eq_false_or_eq_true ((x33.2 == 7)) with a2 | a2
       ·
        rw [a2, cond_true] at av
        have dk : Kn 122 [(a, 0)] [(tB 50 true)] ef := (dj.setB 50 true (by rfl) a2).kp
        obtain ⟨x51, ex51, av⟩ := bnd av
        refine wpFrom_loud _ rfl (wantedS_sound dk (by kernel_rfl)) fun K hK => ?_
        refine wc [] dk y (law_wakes_ok n y.has  ex51) fun lg ju ls em ho d1 => ?_
        obtain rfl := em
        refine ⟨.one (.c (.bool x51)), rfl, fun i0 (fo : Kn 122 [(a, 0)] [(tB 51 x51), (tB 50 true)] i0) => hK _ _ ?_⟩
        refine Rk 4 2 [(tB 4 x51)] fo d1 fun ka fp => ?_
        refine wf ?_
        obtain rfl := Option.some.inj av
        exact Exists.intro _ ⟨_, rfl, fp.kp, d1, ho⟩
       ·
        rw [a2, cond_false] at av
        have fq : Kn 122 [(a, 0)] [(tB 50 false)] ef := (dj.setB 50 false (by rfl) a2).kp
        refine Rk 3 3 [(tB 4 false)] fq y fun kb fr => ?_
        refine wf ?_
        obtain rfl := Option.some.inj av
        exact Exists.intro _ ⟨_, rfl, fr.kp, y, (Heap.le_refl _)⟩
      ·
       rintro _ lu ⟨c5, b5, rfl, fs, hq, jz⟩
       refine wp_ret ?_
       obtain rfl := Option.some.inj H
       exact rt (.one (.c (.bool d9))) fs hq rfl
     ·
      rw [b9, cond_false] at H
      refine wp_skip (wp_seq (wp_seq ?_))
      obtain ⟨ea, br, H⟩ := bnd H
      refine wp_mid' (fun a' w' => ∃ (c7 : Array Value) (am : Heap), a' = ⟨c7, []⟩ ∧ Kn 122 [(a, 0)] [(tI 8 x33.1), (tS 5 i x26.1.length k), (tP 2 0 0), (tS 1 a_plan plan.length c_plan), (tB 60 ea)] c7 ∧ Mem ⟨w, h, noX⟩ am [(a, 0)] [⟨(K14c3 b s d f g), some 74⟩] [] w' ∧ Heap.le a0 am) ?_ ?_
      ·
       refine wp_region_from (Rk 0 3 ((tB 55 (decide (x33.1 < 0))) :: (tI 8 x33.1) :: (tS 5 i x26.1.length k) :: (K14m7 a_plan plan c_plan)) ch y fun eg dl => ?_)
       rcases Bool.eq_false_or_eq_true (decide (x33.1 < 0)) with a3 | a3
       ·
        rw [a3, cond_true] at br
        have ft : Kn 122 [(a, 0)] ((tB 55 true) :: (tI 8 x33.1) :: (tS 5 i x26.1.length k) :: (K14m7 a_plan plan c_plan)) eg := (dl.setB 55 true (by rfl) a3).kp
        refine Rk 3 5 ((tB 60 true) :: (tI 8 x33.1) :: (tS 5 i x26.1.length k) :: (K14m7 a_plan plan c_plan)) ft y fun kc fu => ?_
        refine wf ?_
        obtain rfl := Option.some.inj br
        exact Exists.intro _ ⟨_, rfl, fu.kp, y, (Heap.le_refl _)⟩
       ·
        rw [a3, cond_false] at br
        have fv : Kn 122 [(a, 0)] ((tB 55 false) :: (tI 8 x33.1) :: (tS 5 i x26.1.length k) :: (K14m7 a_plan plan c_plan)) eg := (dl.setB 55 false (by rfl) a3).kp
        refine Rk 3 5 ((tB 60 (decide (x33.1 ≥ s.days))) :: (tI 8 x33.1) :: (tS 5 i x26.1.length k) :: (K14m7 a_plan plan c_plan)) fv y fun kd fw => ?_
        refine wf ?_
        obtain rfl := Option.some.inj br
        exact Exists.intro _ ⟨_, rfl, fw.kp, y, (Heap.le_refl _)⟩
      ·
       rintro _ lv ⟨c7, am, rfl, ci, b0, bw⟩
       replace o := o.mono bw
       replace q := q.mono bw
       replace hr_plan := hr_plan.mono bw
       replace x := x.mono bw
       refine wC (ea) ci (fun ca => ?_) (fun ca => ?_)
       ·
        rw [ca, cond_true] at H
        refine wp_seq (wp_region_from (Rk 0 1 [(tB 4 false)] ci b0 fun ke fx => ?_))
        refine wf (wp_ret ?_)
        obtain rfl := Option.some.inj H
        exact rt (.one (.c (.bool false))) fx b0 rfl
       ·
        rw [ca, cond_false] at H
        refine wp_skip (wp_seq (wp_region_from (Rk 0 3 [(tA 63 (K14c2 i x26 k a_plan plan c_plan)), (tI 8 x33.1), (tP 2 0 0)] ci b0 fun kg fy => ?_)))
        refine wl fun K hK => ?_
        refine wa [.slice none 0 0, .slice none 0 0] fy b0 fun e eh jn (fz : Kn 122 [(a, 0), (e, 0)] [(tP 10 1 0), (tA 63 (K14c2 i x26 k a_plan plan c_plan)), (tI 8 x33.1), (tP 2 0 0)] eh) (hr : Mem ⟨w, h, noX⟩ am [(a, 0), (e, 0)] [⟨(K14c3 b s d f g), some 74⟩, ⟨[.slice none 0 0, .slice none 0 0], some 96⟩] [] jn) => hK _ _ ?_
        refine wl fun K hK => ?_
        refine wst 1 0 (.agg (K14c2 i x26 k a_plan plan c_plan)) (K14c2 i x26 k a_plan plan c_plan) fz hr fun jo f0 (d2 : Mem ⟨w, h, noX⟩ am [(a, 0), (e, 0)] [⟨(K14c3 b s d f g), some 74⟩, ⟨(K14c2 i x26 k a_plan plan c_plan), some 96⟩] [] jo) => hK _ _ ?_
        have f2 : Kn 122 [(a, 0), (e, 0)] [(tP 10 1 0), (tI 8 x33.1), (tP 2 0 0)] eh := f0.kp
        refine wf (wp_seq (wp_seq (wp_region_from (Rk 0 1 [(tI 11 0), (tP 10 1 0), (tI 8 x33.1), (tP 2 0 0)] f2 d2 fun kh f3 => ?_))))
        refine wf ?_
        obtain ⟨eb, df, H⟩ := bnd H
        refine wp_mid' (fun a' w' => ∃ (ed : Unit) (c8 : Array Value) (b6 : Heap), a' = ⟨c8, []⟩ ∧ Kn 122 [(a, 0), (e, 0)] [] c8 ∧ Mem ⟨w, h, noX⟩ b6 [(a, 0), (e, 0)] [⟨(K14c3 b s d f g), some 74⟩, ⟨(K14c2 i x26 k a_plan plan c_plan), some 96⟩] [] w' ∧ Heap.le am b6 ∧ eb = .go ed) ?_ ?_
        ·
         refine wp_block ?_
         refine wp_loop_n (fun ix a' w' => ∃ (x_v10 : Int) (c9 : Array Value) (bt : Heap), a' = ⟨c9, []⟩ ∧ Kn 122 [(a, 0), (e, 0)] (K14m6 x_v10 x33) c9 ∧ Mem ⟨w, h, noX⟩ bt [(a, 0), (e, 0)] [⟨(K14c3 b s d f g), some 74⟩, ⟨(K14c2 i x26 k a_plan plan c_plan), some 96⟩] [] w' ∧ Heap.le am bt ∧ law_PitShort_l1 ix s plan x26 x33 x_v10 = some eb) n ?_ ?_
         ·
          exact Exists.intro 0 ⟨_, _, rfl, f3.kp, d2, (Heap.le_refl _), df⟩
         ·
          rintro ah _ lw ⟨x_v10, c9, bt, rfl, f4, ae, ao, m⟩
          clear df
          obtain _ | ah := ah
          ·
           rw [law_PitShort_l1] at m; cases m
          rw [law_PitShort_l1] at m
          replace o := o.mono ao
          replace q := q.mono ao
          replace hr_plan := hr_plan.mono ao
          replace x := x.mono ao
          refine wp_seq (wp_seq (wp_region_from (Rk 0 2 ((tB 65 (decide (x_v10 < 2))) :: (K14m6 x_v10 x33)) f4 ae fun ki cj => ?_)))
          refine wf (wC (decide (x_v10 < 2)) cj (fun cb => ?_) (fun cb => ?_))
          ·
           rw [cb, cond_true] at m
           refine wp_skip (wp_seq (wp_block (wp_seq (wp_seq (wp_region_G (by kernel_rfl) ?_)))))
           replace ae := ae.drew
           refine wpG_of_D [] [(a, 0), (e, 0)] [⟨(K14c3 b s d f g), some 74⟩, ⟨(K14c2 i x26 k a_plan plan c_plan), some 96⟩] ?_
           refine Dr [0, 2] [2, 0] ((tI 70 x_v10) :: (tA 68 (K14c3 b s d f g)) :: (K14m6 x_v10 x33)) cj ae fun kj dm => ?_
           obtain ⟨x71, ex71, m⟩ := bnd m
           obtain ⟨hs, h1⟩ := rng_some ex71
           refine D_one 3 (.one (.c (.ptr 1 (0 + (x_v10 : Int).toNat * 1)))) (fun _ _ _ _ _ h => h) rfl (by kernel_rfl) (by kernel_rfl) (rfl) rfl ae.plOk (fun _ h => h) (fun w => run_indexA (E := 29) dm rfl (by kernel_rfl) (by kernel_rfl) (by rfl) (by rfl) hs h1) (dm.put (by decide) _) fun i1 (dp : Kn 122 [(a, 0), (e, 0)] ((tP 71 1 (0 + (x_v10 : Int).toNat * 1)) :: (tI 70 x_v10) :: (tA 68 (K14c3 b s d f g)) :: (K14m6 x_v10 x33)) i1) => ?_
           obtain ⟨x72, ex72, m⟩ := bnd m
           obtain ⟨_, _, im⟩ := idx_some ex72
           obtain ⟨ar, au, e7, c0⟩ := sl_get (O := (0 + (x_v10 : Int).toNat * 1)) (sl_cons x (sl_cons hr_plan sl_nil)) im rfl
           refine D_oneP 4 (.one (.c (.slice ar x72.length au))) (fun _ _ _ _ _ h => h) rfl (by kernel_rfl) (by kernel_rfl) (by kernel_rfl) (rfl) rfl ae.plOk (fun w hw => run_loadAt1 dp hw rfl (by rfl) rfl (by kernel_rfl) e7) (dp.put (by decide) _) fun i2 (f5 : Kn 122 [(a, 0), (e, 0)] ((tS 72 ar x72.length au) :: (tP 71 1 (0 + (x_v10 : Int).toNat * 1)) :: (tI 70 x_v10) :: (tA 68 (K14c3 b s d f g)) :: (K14m6 x_v10 x33)) i2) => ?_
           obtain ⟨x69, ex69, m⟩ := bnd m
           refine Dl 1 fun K hK => ?_
           refine wc [.agg (K14c3 b s d f g)] f5 ae (law_Shop_ok ah ae.has s ((rep_pair (rep_slice o) (rep_pair rep_int (rep_slice q))) : rep bt s _) ex69) fun li jw ly en ap cw => ?_
           replace c0 := c0.mono ap
           obtain ⟨_, rfl, ⟨_, _, rfl, ⟨ai, ak, rfl, c1⟩, ⟨_, _, rfl, rfl, ⟨aj, al, rfl, c2⟩⟩⟩⟩ := en
           refine ⟨.one (.agg (K14c4 ai x69 ak aj al)), rfl, fun i3 (f6 : Kn 122 [(a, 0), (e, 0)] ((tA 69 (K14c4 ai x69 ak aj al)) :: (tS 72 ar x72.length au) :: (tP 71 1 (0 + (x_v10 : Int).toNat * 1)) :: (tI 70 x_v10) :: (tA 68 (K14c3 b s d f g)) :: (K14m6 x_v10 x33)) i3) => hK _ _ cw.plOk ?_⟩
           obtain ⟨x73, ex73, m⟩ := bnd m
           refine Dl 5 fun K hK => ?_
           refine wc [.c (.slice ar x72.length au)] f6 cw (law_list_ok ah cw.has x72 c0 ex73) fun lj ey lz ep af cx => ?_
           replace c1 := c1.mono af
           replace c2 := c2.mono af
           obtain ⟨bb, bj, rfl, h9⟩ := ep
           refine ⟨.one (.c (.slice bb x73.length bj)), rfl, fun i4 (f7 : Kn 122 [(a, 0), (e, 0)] ((tS 73 bb x73.length bj) :: (tA 69 (K14c4 ai x69 ak aj al)) :: (tS 72 ar x72.length au) :: (tP 71 1 (0 + (x_v10 : Int).toNat * 1)) :: (tI 70 x_v10) :: (tA 68 (K14c3 b s d f g)) :: (K14m6 x_v10 x33)) i4) => hK _ _ cx.plOk ?_⟩
           obtain ⟨x74, ex74, m⟩ := bnd m
           refine Dl 6 fun K hK => ?_
           refine wc [.agg (K14c4 ai x69 ak aj al), .c (.slice bb x73.length bj), .c (.int .i64 1000000)] f7 cx (pit_ProvePlan_ok ah cx.has x69 ((rep_pair (rep_slice c1) (rep_pair rep_int (rep_slice c2))) : rep ey x69 _) x73 h9 1000000 ex74) fun lk dh l0 er ax aq => ?_
           replace o := o.mono (Heap.le_trans (Heap.le_trans ap af) ax)
           replace q := q.mono (Heap.le_trans (Heap.le_trans ap af) ax)
           replace hr_plan := hr_plan.mono (Heap.le_trans (Heap.le_trans ap af) ax)
           replace x := x.mono (Heap.le_trans (Heap.le_trans ap af) ax)
           obtain rfl := er
           refine ⟨.one (.c (.bool x74)), rfl, fun i5 (f8 : Kn 122 [(a, 0), (e, 0)] ((tB 74 x74) :: (tS 73 bb x73.length bj) :: (tA 69 (K14c4 ai x69 ak aj al)) :: (tS 72 ar x72.length au) :: (tP 71 1 (0 + (x_v10 : Int).toNat * 1)) :: (tI 70 x_v10) :: (tA 68 (K14c3 b s d f g)) :: (K14m6 x_v10 x33)) i5) => hK _ _ aq.plOk ?_⟩
           refine Dr [7] [7, 6, 5, 1, 4, 3, 2, 0] ((tB 75 (!x74)) :: (K14m6 x_v10 x33)) f8 aq fun kk ck => ?_
           refine wpD_end (by kernel_rfl) (wC ((!x74)) ck (fun cc => ?_) (fun cc => ?_))
           ·
            rw [cc, cond_true] at m
            refine wp_exit (wp_region_from (Rk 0 3 [(tI 11 (IntKind.i64.wrap (x_v10 + 1))), (tP 10 1 0), (tI 8 x33.1), (tP 2 0 0)] ck aq fun kl f9 => ?_))
            refine wf ?_
            exact Exists.intro ah ⟨Nat.lt_succ_self _, Exists.intro (IntKind.i64.wrap (x_v10 + 1)) ⟨_, _, rfl, f9.kp, aq, (Heap.le_trans ao (Heap.le_trans ap (Heap.le_trans af ax))), m⟩⟩
           ·
            rw [cc, cond_false] at m
            refine wp_skip (wp_seq (wp_region_from (Rk 0 1 ((tB 12 false) :: (K14m6 x_v10 x33)) ck aq fun km ga => ?_)))
            refine wf (wp_seq (wp_seq (wp_region_from (Rk 0 1 ((tI 13 0) :: (tB 12 false) :: (K14m6 x_v10 x33)) ga aq fun kn gb => ?_))))
            refine wf ?_
            obtain ⟨b2, dg, m⟩ := bnd m
            refine wp_mid' (fun a' w' => ∃ (da : Array Value) (b7 : Heap), a' = ⟨da, []⟩ ∧ Kn 122 [(a, 0), (e, 0)] ((tB 12 b2) :: (K14m6 x_v10 x33)) da ∧ Mem ⟨w, h, noX⟩ b7 [(a, 0), (e, 0)] [⟨(K14c3 b s d f g), some 74⟩, ⟨(K14c2 i x26 k a_plan plan c_plan), some 96⟩] [] w' ∧ Heap.le dh b7) ?_ ?_
            ·
             refine wp_block ?_
             refine wp_loop_n (fun iy a' w' => ∃ (x_v20 : Int) (x_v21 : Bool) (db : Array Value) (an : Heap), a' = ⟨db, []⟩ ∧ Kn 122 [(a, 0), (e, 0)] ((tI 13 x_v20) :: (tB 12 x_v21) :: (K14m6 x_v10 x33)) db ∧ Mem ⟨w, h, noX⟩ an [(a, 0), (e, 0)] [⟨(K14c3 b s d f g), some 74⟩, ⟨(K14c2 i x26 k a_plan plan c_plan), some 96⟩] [] w' ∧ Heap.le dh an ∧ law_PitShort_l2 iy s plan x26 x33 x_v10 x_v20 x_v21 = some b2) ah ?_ ?_
             ·
              exact Exists.intro 0 ⟨false, _, _, rfl, gb.kp, aq, (Heap.le_refl _), dg⟩
             ·
              rintro az _ b4 ⟨x_v20, x_v21, db, an, rfl, gd, z, ag, l⟩
              clear dg
              obtain _ | az := az
              ·
               rw [law_PitShort_l2] at l; cases l
              rw [law_PitShort_l2] at l
              replace o := o.mono ag
              replace hr_plan := hr_plan.mono ag
              replace x := x.mono ag
              refine wp_seq (wp_seq (wp_region_from (Rk 0 2 ((tI 77 x_v10) :: (tI 76 x_v20) :: (tI 13 x_v20) :: (tB 12 x_v21) :: (K14m6 x_v10 x33)) gd z fun ko dq => ?_)))
              obtain ⟨x78, ex78, l⟩ := bnd l
              obtain ⟨ht, h2⟩ := rng_some ex78
              refine R_one 2 (.one (.c (.ptr 1 (0 + (x_v10 : Int).toNat * 1)))) rfl (rfl) rfl (run_indexA (E := 29) dq rfl (by kernel_rfl) (by kernel_rfl) (by rfl) (by rfl) ht h2) (dq.put (by decide) _) fun i7 (dr : Kn 122 [(a, 0), (e, 0)] ((tP 78 1 (0 + (x_v10 : Int).toNat * 1)) :: (tI 77 x_v10) :: (tI 76 x_v20) :: (tI 13 x_v20) :: (tB 12 x_v21) :: (K14m6 x_v10 x33)) i7) => ?_
              obtain ⟨x79, ex79, l⟩ := bnd l
              obtain ⟨_, _, io⟩ := idx_some ex79
              obtain ⟨dc, de, e8, j3⟩ := sl_get (O := (0 + (x_v10 : Int).toNat * 1)) (sl_cons x (sl_cons hr_plan sl_nil)) io rfl
              refine R_one 3 (.one (.c (.slice dc x79.length de))) rfl (rfl) rfl (run_loadAt1 dr z.plOk rfl (by rfl) rfl (by kernel_rfl) e8) (dr.put (by decide) _) fun i8 (gf : Kn 122 [(a, 0), (e, 0)] ((tS 79 dc x79.length de) :: (tP 78 1 (0 + (x_v10 : Int).toNat * 1)) :: (tI 77 x_v10) :: (tI 76 x_v20) :: (tI 13 x_v20) :: (tB 12 x_v21) :: (K14m6 x_v10 x33)) i8) => ?_
              refine Rk 4 2 ((tB 81 (decide (x_v20 < ((x79.length : Nat) : Int)))) :: (tI 13 x_v20) :: (tB 12 x_v21) :: (K14m6 x_v10 x33)) gf z fun kq cl => ?_
              refine wf (wC (decide (x_v20 < ((x79.length : Nat) : Int))) cl (fun cd => ?_) (fun cd => ?_))
              ·
               rw [cd, cond_true] at l
               refine wp_skip (wp_seq (wp_block (wp_region_G (by kernel_rfl) ?_)))
               replace z := z.drew
               refine wpG_of_D [] [(a, 0), (e, 0)] [⟨(K14c3 b s d f g), some 74⟩, ⟨(K14c2 i x26 k a_plan plan c_plan), some 96⟩] ?_
               refine Dr [0, 1] [1, 0] ((tB 85 x_v21) :: (tI 13 x_v20) :: (K14m6 x_v10 x33)) cl z fun ej dt => ?_
               rcases Bool.eq_false_or_eq_true (x_v21) with a4 | a4
               ·
                rw [a4, cond_true] at l
                have gg : Kn 122 [(a, 0), (e, 0)] ((tB 85 true) :: (tI 13 x_v20) :: (K14m6 x_v10 x33)) ej := (dt.setB 85 true (by rfl) a4).kp
                refine Dr [2, 3, 4, 5, 6, 7, 8, 9, 10, 11, 12, 13, 14, 15, 16, 17, 18, 19, 20, 21, 22, 23, 24, 25, 26, 27, 28, 29, 30, 31, 32, 33, 34, 35] (dn 35) ((tB 12 true) :: (tI 13 x_v20) :: (K14m6 x_v10 x33)) gg z fun kr gh => ?_
                refine wpD_end (by kernel_rfl) (wp_region_from (Rk 0 3 ((tI 13 (IntKind.i64.wrap (x_v20 + 1))) :: (tB 12 true) :: (K14m6 x_v10 x33)) gh z fun ks gi => ?_))
                refine wf ?_
                exact Exists.intro az ⟨Nat.lt_succ_self _, Exists.intro (IntKind.i64.wrap (x_v20 + 1)) ⟨true, _, _, rfl, gi.kp, z, ag, l⟩⟩
               ·
                rw [a4, cond_false] at l
                have gj : Kn 122 [(a, 0), (e, 0)] ((tB 85 false) :: (tI 13 x_v20) :: (K14m6 x_v10 x33)) ej := (dt.setB 85 false (by rfl) a4).kp
                refine Dr [2, 3, 4] (dn 4) ((tI 88 x_v20) :: (tS 87 b s.buses.length d) :: (tB 85 false) :: (tI 13 x_v20) :: (K14m6 x_v10 x33)) gj z fun kt du => ?_
                obtain ⟨x89, ex89, l⟩ := bnd l
                obtain ⟨hu, h3, ip⟩ := idx_some ex89
                obtain ⟨p, u, jq, e3, ii, e9⟩ := o.get (by decide) ip
                obtain ⟨_, _, rfl, rfl, ⟨_, _, rfl, rfl, rfl⟩⟩ := ii
                have ac : Mem ⟨w, h, noX⟩ an [(a, 0), (e, 0), (p, u + (x_v20 : Int).toNat * 3)] [⟨(K14c3 b s d f g), some 74⟩, ⟨(K14c2 i x26 k a_plan plan c_plan), some 96⟩, ⟨(K14c1 x89), none⟩] [] (World.drew b4) := z.addPlc (cs := (K14c1 x89)) (fun j c hj => e9 j _ (map_get hj)) rfl (by kernel_rfl) (by kernel_rfl)
                refine D_index 5 (x_v20) (K14c1 x89) (fun _ _ _ _ _ h => h) rfl rfl (wantedS_sound du (by kernel_rfl)) rfl (by decide) (by kernel_rfl) (by kernel_rfl) du z.plOk (by rfl) (by rfl) (by rfl) e3 (by rfl) hu h3 (by kernel_rfl) fun i9 (gl : Kn 122 [(a, 0), (e, 0), (p, u + (x_v20 : Int).toNat * 3)] ((tP 89 2 0) :: (tI 88 x_v20) :: (tS 87 b s.buses.length d) :: (tB 85 false) :: (tI 13 x_v20) :: (K14m6 x_v10 x33)) i9) => ?_
                refine Dr [6, 7, 8, 9, 10] (dn 10) ((tB 94 (decide (x89.due ≤ x33.1))) :: (tB 85 false) :: (tI 13 x_v20) :: (K14m6 x_v10 x33)) gl ac fun ek dv => ?_
                rcases Bool.eq_false_or_eq_true (decide (x89.due ≤ x33.1)) with a6 | a6
                ·
                 rw [a6, cond_true] at l
                 have gm : Kn 122 [(a, 0), (e, 0), (p, u + (x_v20 : Int).toNat * 3)] (K14m8 x_v20 x_v10 x33) ek := (dv.setB 94 true (by rfl) a6).kp
                 refine Dr [11] (dn 11) ((tI 95 x_v10) :: (K14m8 x_v20 x_v10 x33)) gm ac fun kv cm => ?_
                 obtain ⟨x96, ex96, l⟩ := bnd l
                 obtain ⟨hv, h4⟩ := rng_some ex96
                 refine D_one 12 (.one (.c (.ptr 1 (0 + (x_v10 : Int).toNat * 1)))) (fun _ _ _ _ _ h => h) rfl (by kernel_rfl) (by kernel_rfl) (wantedS_sound cm (by kernel_rfl)) rfl ac.plOk (fun _ h => h) (fun w => run_indexA (E := 29) cm rfl (by kernel_rfl) (by kernel_rfl) (by rfl) (by rfl) hv h4) (cm.put (by decide) _) fun ja (cn : Kn 122 [(a, 0), (e, 0), (p, u + (x_v20 : Int).toNat * 3)] ((tP 96 1 (0 + (x_v10 : Int).toNat * 1)) :: (tI 95 x_v10) :: (K14m8 x_v20 x_v10 x33)) ja) => ?_
                 obtain ⟨x97, ex97, l⟩ := bnd l
                 obtain ⟨_, _, iq⟩ := idx_some ex97
                 obtain ⟨bg, bo, fa, ia⟩ := sl_get (O := (0 + (x_v10 : Int).toNat * 1)) (sl_cons x (sl_cons hr_plan sl_nil)) iq rfl
                 refine D_oneP 13 (.one (.c (.slice bg x97.length bo))) (fun _ _ _ _ _ h => h) rfl (by kernel_rfl) (by kernel_rfl) (by kernel_rfl) (wantedS_sound cn (by kernel_rfl)) rfl ac.plOk (fun w hw => run_loadAt1 cn hw rfl (by rfl) rfl (by kernel_rfl) fa) (cn.put (by decide) _) fun jb (gp : Kn 122 [(a, 0), (e, 0), (p, u + (x_v20 : Int).toNat * 3)] ((tS 97 bg x97.length bo) :: (tP 96 1 (0 + (x_v10 : Int).toNat * 1)) :: (tI 95 x_v10) :: (K14m8 x_v20 x_v10 x33)) jb) => ?_
                 refine Dr [14] (dn 14) ((tI 98 x_v20) :: (tS 97 bg x97.length bo) :: (K14m8 x_v20 x_v10 x33)) gp ac fun kw dw => ?_
                 obtain ⟨x99, ex99, l⟩ := bnd l
                 obtain ⟨hx, h5, ir⟩ := idx_some ex99
                 obtain ⟨aa, ab, jr, e4, ij, fb⟩ := ia.get (by decide) ir
                 obtain rfl := ij
                 have ad : Mem ⟨w, h, noX⟩ an (K14e5 a e p u x_v20 aa ab) [⟨(K14c3 b s d f g), some 74⟩, ⟨(K14c2 i x26 k a_plan plan c_plan), some 96⟩, ⟨(K14c1 x89), none⟩, ⟨[.int .i64 x99], none⟩] [] (World.drew b4) := ac.addPlc (cs := [.int .i64 x99]) (fun j c hj => fb j _ (map_get hj)) rfl (by kernel_rfl) (by kernel_rfl)
                 refine D_index 15 (x_v20) [.int .i64 x99] (fun _ _ _ _ _ h => h) rfl rfl (wantedS_sound dw (by kernel_rfl)) rfl (by decide) (by kernel_rfl) (by kernel_rfl) dw ac.plOk (by rfl) (by rfl) (by rfl) e4 (by rfl) hx h5 (by kernel_rfl) fun jc (gr : Kn 122 (K14e5 a e p u x_v20 aa ab) ((tP 99 3 0) :: (tI 98 x_v20) :: (tS 97 bg x97.length bo) :: (K14m8 x_v20 x_v10 x33)) jc) => ?_
                 refine Dr [16, 17, 18] (dn 18) ((tB 102 (decide (x99 < 0))) :: (K14m8 x_v20 x_v10 x33)) gr ad fun el dx => ?_
                 rcases Bool.eq_false_or_eq_true (decide (x99 < 0)) with a7 | a7
                 ·
                  rw [a7, cond_true] at l
                  have gs : Kn 122 (K14e5 a e p u x_v20 aa ab) ((tB 102 true) :: (K14m8 x_v20 x_v10 x33)) el := (dx.setB 102 true (by rfl) a7).kp
                  refine Dr [19, 20, 21, 22, 23, 24, 25, 26, 27, 28, 29, 30, 31, 32, 33, 34, 35] (dn 35) ((tB 12 true) :: (tI 13 x_v20) :: (K14m6 x_v10 x33)) gs ad fun ky gu => ?_
                  refine wpD_end (by kernel_rfl) (wp_region_from (Rk 0 3 ((tI 13 (IntKind.i64.wrap (x_v20 + 1))) :: (tB 12 true) :: (K14m6 x_v10 x33)) gu ad fun kz gv => ?_))
                  refine wf ?_
                  exact Exists.intro az ⟨Nat.lt_succ_self _, Exists.intro (IntKind.i64.wrap (x_v20 + 1)) ⟨true, _, _, rfl, ((gv.keep [13, 12, 11, 10, 8, 2] (by rfl)).cut 2 (by kernel_rfl)), (ad.cutPl 2 (by kernel_rfl)), ag, l⟩⟩
                 ·
                  rw [a7, cond_false] at l
                  have gw : Kn 122 (K14e5 a e p u x_v20 aa ab) ((tB 102 false) :: (K14m8 x_v20 x_v10 x33)) el := (dx.setB 102 false (by rfl) a7).kp
                  refine Dr [19] (dn 19) ((tI 103 x_v10) :: (tB 102 false) :: (K14m8 x_v20 x_v10 x33)) gw ad fun k0 co => ?_
                  obtain ⟨x104, ex104, l⟩ := bnd l
                  obtain ⟨hy, h6⟩ := rng_some ex104
                  refine D_one 20 (.one (.c (.ptr 1 (0 + (x_v10 : Int).toNat * 1)))) (fun _ _ _ _ _ h => h) rfl (by kernel_rfl) (by kernel_rfl) (wantedS_sound co (by kernel_rfl)) rfl ad.plOk (fun _ h => h) (fun w => run_indexA (E := 29) co rfl (by kernel_rfl) (by kernel_rfl) (by rfl) (by rfl) hy h6) (co.put (by decide) _) fun jd (cp : Kn 122 (K14e5 a e p u x_v20 aa ab) ((tP 104 1 (0 + (x_v10 : Int).toNat * 1)) :: (tI 103 x_v10) :: (tB 102 false) :: (K14m8 x_v20 x_v10 x33)) jd) => ?_
                  obtain ⟨x105, ex105, l⟩ := bnd l
                  obtain ⟨_, _, iu⟩ := idx_some ex105
                  obtain ⟨bh, bp, fc, ib⟩ := sl_get (O := (0 + (x_v10 : Int).toNat * 1)) (sl_cons x (sl_cons hr_plan sl_nil)) iu rfl
                  refine D_oneP 21 (.one (.c (.slice bh x105.length bp))) (fun _ _ _ _ _ h => h) rfl (by kernel_rfl) (by kernel_rfl) (by kernel_rfl) (wantedS_sound cp (by kernel_rfl)) rfl ad.plOk (fun w hw => run_loadAt1 cp hw rfl (by rfl) rfl (by kernel_rfl) fc) (cp.put (by decide) _) fun je (gy : Kn 122 (K14e5 a e p u x_v20 aa ab) ((tS 105 bh x105.length bp) :: (tP 104 1 (0 + (x_v10 : Int).toNat * 1)) :: (tI 103 x_v10) :: (tB 102 false) :: (K14m8 x_v20 x_v10 x33)) je) => ?_
                  refine Dr [22] (dn 22) ((tI 106 x_v20) :: (tS 105 bh x105.length bp) :: (tB 102 false) :: (K14m8 x_v20 x_v10 x33)) gy ad fun k1 dy => ?_
                  obtain ⟨x107, ex107, l⟩ := bnd l
                  obtain ⟨hz, h7, iv⟩ := idx_some ex107
                  obtain ⟨bi, b3, js, e5, ik, fd⟩ := ib.get (by decide) iv
                  obtain rfl := ik
                  have cy : Mem ⟨w, h, noX⟩ an [(a, 0), (e, 0), (p, u + (x_v20 : Int).toNat * 3), (aa, ab + (x_v20 : Int).toNat * 1), (bi, b3 + (x_v20 : Int).toNat * 1)] [⟨(K14c3 b s d f g), some 74⟩, ⟨(K14c2 i x26 k a_plan plan c_plan), some 96⟩, ⟨(K14c1 x89), none⟩, ⟨[.int .i64 x99], none⟩, ⟨[.int .i64 x107], none⟩] [] (World.drew b4) := ad.addPlc (cs := [.int .i64 x107]) (fun j c hj => fd j _ (map_get hj)) rfl (by kernel_rfl) (by kernel_rfl)
                  refine D_index 23 (x_v20) [.int .i64 x107] (fun _ _ _ _ _ h => h) rfl rfl (wantedS_sound dy (by kernel_rfl)) rfl (by decide) (by kernel_rfl) (by kernel_rfl) dy ad.plOk (by rfl) (by rfl) (by rfl) e5 (by rfl) hz h7 (by kernel_rfl) fun jf (gz : Kn 122 [(a, 0), (e, 0), (p, u + (x_v20 : Int).toNat * 3), (aa, ab + (x_v20 : Int).toNat * 1), (bi, b3 + (x_v20 : Int).toNat * 1)] ((tP 107 4 0) :: (tI 106 x_v20) :: (tS 105 bh x105.length bp) :: (tB 102 false) :: (K14m8 x_v20 x_v10 x33)) jf) => ?_
                  refine Dr [24, 25, 26, 27] (dn 27) ((tI 111 x_v20) :: (tS 110 b s.buses.length d) :: (tI 108 x107) :: (tB 102 false) :: (K14m8 x_v20 x_v10 x33)) gz cy fun k2 dz => ?_
                  obtain ⟨x112, ex112, l⟩ := bnd l
                  obtain ⟨h0, h8, iw⟩ := idx_some ex112
                  obtain ⟨dd, ec, jt, e6, il, fe⟩ := o.get (by decide) iw
                  obtain ⟨_, _, rfl, rfl, ⟨_, _, rfl, rfl, rfl⟩⟩ := il
                  have cz : Mem ⟨w, h, noX⟩ an [(a, 0), (e, 0), (p, u + (x_v20 : Int).toNat * 3), (aa, ab + (x_v20 : Int).toNat * 1), (bi, b3 + (x_v20 : Int).toNat * 1), (dd, ec + (x_v20 : Int).toNat * 3)] [⟨(K14c3 b s d f g), some 74⟩, ⟨(K14c2 i x26 k a_plan plan c_plan), some 96⟩, ⟨(K14c1 x89), none⟩, ⟨[.int .i64 x99], none⟩, ⟨[.int .i64 x107], none⟩, ⟨[.int .i64 x112.due, .int .i64 x112.work, .int .i64 x112.cost], none⟩] [] (World.drew b4) := cy.addPlc (cs := [.int .i64 x112.due, .int .i64 x112.work, .int .i64 x112.cost]) (fun j c hj => fe j _ (map_get hj)) rfl (by kernel_rfl) (by kernel_rfl)
                  refine D_index 28 (x_v20) [.int .i64 x112.due, .int .i64 x112.work, .int .i64 x112.cost] (fun _ _ _ _ _ h => h) rfl rfl (wantedS_sound dz (by kernel_rfl)) rfl (by decide) (by kernel_rfl) (by kernel_rfl) dz cy.plOk (by rfl) (by rfl) (by rfl) e6 (by rfl) h0 h8 (by kernel_rfl) fun jg (g0 : Kn 122 [(a, 0), (e, 0), (p, u + (x_v20 : Int).toNat * 3), (aa, ab + (x_v20 : Int).toNat * 1), (bi, b3 + (x_v20 : Int).toNat * 1), (dd, ec + (x_v20 : Int).toNat * 3)] ((tP 112 5 0) :: (tI 111 x_v20) :: (tS 110 b s.buses.length d) :: (tI 108 x107) :: (tB 102 false) :: (K14m8 x_v20 x_v10 x33)) jg) => ?_
                  refine Dr [29, 30, 31, 32, 33, 34, 35] (dn 35) ((tB 12 (decide (x107 > x112.due))) :: (tI 13 x_v20) :: (K14m6 x_v10 x33)) g0 cz fun k3 g1 => ?_
                  refine wpD_end (by kernel_rfl) (wp_region_from (Rk 0 3 ((tI 13 (IntKind.i64.wrap (x_v20 + 1))) :: (tB 12 (decide (x107 > x112.due))) :: (K14m6 x_v10 x33)) g1 cz fun k4 g2 => ?_))
                  refine wf ?_
                  exact Exists.intro az ⟨Nat.lt_succ_self _, Exists.intro (IntKind.i64.wrap (x_v20 + 1)) ⟨(decide (x107 > x112.due)), _, _, rfl, ((g2.keep [13, 12, 11, 10, 8, 2] (by rfl)).cut 2 (by kernel_rfl)), (cz.cutPl 2 (by kernel_rfl)), ag, l⟩⟩
                ·
                 rw [a6, cond_false] at l
                 have g3 : Kn 122 [(a, 0), (e, 0), (p, u + (x_v20 : Int).toNat * 3)] ((tB 94 false) :: (tB 85 false) :: (tI 13 x_v20) :: (K14m6 x_v10 x33)) ek := (dv.setB 94 false (by rfl) a6).kp
                 refine Dr [11, 12, 13, 14, 15, 16, 17, 18, 19, 20, 21, 22, 23, 24, 25, 26, 27, 28, 29, 30, 31, 32, 33, 34, 35] (dn 35) ((tB 12 false) :: (tI 13 x_v20) :: (K14m6 x_v10 x33)) g3 ac fun k5 g4 => ?_
                 refine wpD_end (by kernel_rfl) (wp_region_from (Rk 0 3 ((tI 13 (IntKind.i64.wrap (x_v20 + 1))) :: (tB 12 false) :: (K14m6 x_v10 x33)) g4 ac fun k6 g5 => ?_))
                 refine wf ?_
                 exact Exists.intro az ⟨Nat.lt_succ_self _, Exists.intro (IntKind.i64.wrap (x_v20 + 1)) ⟨false, _, _, rfl, ((g5.keep [13, 12, 11, 10, 8, 2] (by rfl)).cut 2 (by kernel_rfl)), (ac.cutPl 2 (by kernel_rfl)), ag, l⟩⟩
              ·
               rw [cd, cond_false] at l
               refine wp_exit ?_
               obtain rfl := Option.some.inj l
               exact Exists.intro _ ⟨_, rfl, cl.kp, z, ag⟩
            ·
             rintro _ l2 ⟨da, b7, rfl, g6, ba, hp⟩
             refine wp_seq (wp_region_from (Rk 0 2 ((tB 120 (!b2)) :: (K14m6 x_v10 x33)) g6 ba fun k7 cr => ?_))
             refine wf (wC ((!b2)) cr (fun cf => ?_) (fun cf => ?_))
             ·
              rw [cf, cond_true] at m
              refine wp_seq (wp_region_from (Rk 0 1 [(tB 4 false)] cr ba fun k8 g7 => ?_))
              refine wf (wp_ret ?_)
              obtain rfl := Option.some.inj m
              obtain rfl := Option.some.inj H
              exact rt (.one (.c (.bool false))) g7 ba rfl
             ·
              rw [cf, cond_false] at m
              refine wp_skip (wp_region_from (Rk 0 3 [(tI 11 (IntKind.i64.wrap (x_v10 + 1))), (tP 10 1 0), (tI 8 x33.1), (tP 2 0 0)] cr ba fun k9 g8 => ?_))
              refine wf ?_
              exact Exists.intro ah ⟨Nat.lt_succ_self _, Exists.intro (IntKind.i64.wrap (x_v10 + 1)) ⟨_, _, rfl, g8.kp, ba, (Heap.le_trans ao (Heap.le_trans ap (Heap.le_trans af (Heap.le_trans ax hp)))), m⟩⟩
          ·
           rw [cb, cond_false] at m
           refine wp_exit ?_
           obtain rfl := Option.some.inj m
           exact Exists.intro () ⟨_, _, rfl, cj.kp, ae, ao, rfl⟩
        ·
         rintro _ l3 ⟨ed, c8, b6, rfl, g9, d3, j0, rfl⟩
         rw [Ex.bind_go] at H
         refine wp_seq (wp_region_from ?_)
         obtain ⟨x121, ex121, H⟩ := bnd H
         refine wl fun K hK => ?_
         refine wc [] g9 d3 (law_wakes_ok n d3.has  ex121) fun lm jx l4 es j1 d4 => ?_
         obtain rfl := es
         refine ⟨.one (.c (.bool x121)), rfl, fun jh (ha : Kn 122 [(a, 0), (e, 0)] [(tB 121 x121)] jh) => hK _ _ ?_⟩
         refine Rk 1 1 [(tB 4 x121)] ha d4 fun la hb => ?_
         refine wf (wp_ret ?_)
         obtain rfl := Option.some.inj H
         exact rt (.one (.c (.bool x121))) hb d4 rfl
end Go.Proofs.Ytkbphdjemgibnaa
