/- Each call computes its plain function. -/
import Derived.Test.YtkbphdjemgibnaaProg
import Derived.Test.YtkbphdjemgibnaaBeP0
import Derived.Test.YtkbphdjemgibnaaBeWB
import Derived.Test.YtkbphdjemgibnaaBeWC
import Derived.Test.YtkbphdjemgibnaaBeWU
import Derived.Test.YtkbphdjemgibnaaBeWV
import Derived.Test.YtkbphdjemgibnaaBeWW
set_option linter.all false
namespace Go.Proofs.Ytkbphdjemgibnaa
open Go Go.RowKit
open Rep (rep)
open KRep (kv)
open VRep (rv)
abbrev K13c1 (x113 : Job) : List SC := [.int .i64 x113.due, .int .i64 x113.work, .int .i64 x113.cost]
abbrev K13c2 (b : Option Addr) (s : Shop) (d : Nat) (f : Option Addr) (g : Nat) : List SC := [.slice b s.buses.length d, .int .i64 s.days, .slice f s.pits.length g]
abbrev K13c3 (p : Option Addr) (x74 : List Job) (q : Nat) (s : Shop) (m : Option Addr) (x69 : List Int) (o : Nat) : List SC := [.slice p x74.length q, .int .i64 s.days, .slice m x69.length o]
abbrev K13c4 (aj : Option Addr) (ac : ((List Int) × (List Job))) (al : Nat) (s : Shop) (ai : Option Addr) (ak : Nat) : List SC := [.slice aj ac.2.length al, .int .i64 s.days, .slice ai ac.1.length ak]
abbrev K13c5 (a4 : Option Addr) (x41 : Shop) (ba : Nat) (az : Option Addr) (a5 : Nat) : List SC := [.slice a4 x41.buses.length ba, .int .i64 x41.days, .slice az x41.pits.length a5]
abbrev K13c6 (a0 : Option Addr) (x50 : Shop) (a6 : Nat) (a1 : Option Addr) (a7 : Nat) : List SC := [.slice a0 x50.buses.length a6, .int .i64 x50.days, .slice a1 x50.pits.length a7]
abbrev K13c7 (a2 : Option Addr) (x59 : Shop) (a8 : Nat) (a3 : Option Addr) (a9 : Nat) : List SC := [.slice a2 x59.buses.length a8, .int .i64 x59.days, .slice a3 x59.pits.length a9]
abbrev K13e8 (a l bm : Nat) (at_ : IK .u8) (x69 : List Int) : Env := [(a, 0), (l, 0), (bm, 0 + (Int.tmod (IntKind.i64.wrap at_.n) ((x69.length : Nat) : Int) : Int).toNat * 1)]
abbrev K13e9 (a l ah : Nat) (at_ : IK .u8) (x74 : List Job) : Env := [(a, 0), (l, 0), (ah, 0 + (Int.tmod (IntKind.i64.wrap at_.n) ((x74.length : Nat) : Int) : Int).toNat * 3)]
abbrev K13m10 (which at_ by_ : IK .u8) : TM := [(2, .one (.c (.int .u8 which.n))), (3, .one (.c (.int .u8 at_.n))), (4, .one (.c (.int .u8 by_.n)))]
abbrev K13m11 (a_plan : Option Addr) (plan : List Int) (c_plan : Nat) (which at_ by_ : IK .u8) : TM := (tP 5 0 0) :: (tS 1 a_plan plan.length c_plan) :: (K13m10 which at_ by_)
abbrev K13m12 (by_ : IK .u8) (x33 : (List Int) × Int × Int) (which at_ : IK .u8) : TM := [(tI 15 (Int.tmod (IntKind.i64.wrap by_.n) 8)), (tP 14 1 0), (tI 12 x33.2.1), (2, .one (.c (.int .u8 which.n))), (3, .one (.c (.int .u8 at_.n)))]
abbrev K13m13 (x33 : (List Int) × Int × Int) (aa : Option Addr) (ab : Nat) (a_plan : Option Addr) (plan : List Int) (c_plan : Nat) (which at_ by_ : IK .u8) : TM := (tI 12 x33.2.1) :: (tS 11 aa x33.1.length ab) :: (K13m11 a_plan plan c_plan which at_ by_)
abbrev K13m14 (x74 : List Job) (at_ : IK .u8) (p : Option Addr) (q : Nat) (by_ : IK .u8) (x33 : (List Int) × Int × Int) (which : IK .u8) : TM := [(tI 111 ((x74.length : Nat) : Int)), (tI 108 (IntKind.i64.wrap at_.n)), (tS 106 p x74.length q), (tI 15 (Int.tmod (IntKind.i64.wrap by_.n) 8)), (tP 14 1 0), (tI 12 x33.2.1), (2, .one (.c (.int .u8 which.n)))]
abbrev K13m15 (by_ : IK .u8) (x33 : (List Int) × Int × Int) : TM := [(tI 15 (Int.tmod (IntKind.i64.wrap by_.n) 8)), (tP 14 1 0), (tI 12 x33.2.1)]
abbrev K13m16 (x33 : (List Int) × Int × Int) (which at_ by_ : IK .u8) : TM := (tI 12 x33.2.1) :: (tP 5 0 0) :: (K13m10 which at_ by_)
set_option maxRecDepth 100000 in
set_option maxHeartbeats 4000000 in
theorem law_PitBest_ok (n : Nat) {h : Heap} {w : World} (hh : Has h w) (s : Shop) {cs_s : List Value} (hx_s : rep h s cs_s) (plan : List Int) {a_plan : Option Addr} {c_plan : Nat} (hr_plan : RepS h a_plan c_plan plan) (which : IK .u8) (at_ : IK .u8) (by_ : IK .u8) {r : Bool} (H : law_PitBest n s plan which at_ by_ = some r) :
  Calls Try.prog 13 #[.agg cs_s.toArray, .slice a_plan plan.length c_plan, .int .u8 which.n, .int .u8 at_.n, .int .u8 by_.n] w (Ret (fun h v => v = .bool r) h w) := by
 obtain ⟨_, _, rfl, ⟨b, d, rfl, ae⟩, ⟨_, _, rfl, rfl, ⟨f, g, rfl, af⟩⟩⟩ := hx_s
 refine enter 167 [.agg (K13c2 b s d f g), .c (.slice a_plan plan.length c_plan), .c (.int .u8 which.n), .c (.int .u8 at_.n), .c (.int .u8 by_.n)] Try.func13 rfl rfl rfl rfl fun t hk => ?_
 have hm := Mem.begin h w hh
 unfold law_PitBest at H
 refine wp_seq (wp_region_from (wl fun K hK => ?_))
 refine wb (.agg (K13c2 b s d f g)) hk hm fun a ly l6 (hf : Kn 167 [(a, 0)] ((tP 5 0 0) :: (tA 0 (K13c2 b s d f g)) :: (tS 1 a_plan plan.length c_plan) :: (K13m10 which at_ by_)) ly) (c4 : Mem ⟨w, h, noX⟩ h [(a, 0)] [⟨(K13c2 b s d f g), some 74⟩] [] l6) => hK _ _ ?_
 refine Rk 1 1 (K13m11 a_plan plan c_plan which at_ by_) hf c4 fun my hl => ?_
 refine wf (wp_seq (wp_seq ?_))
 obtain ⟨eh, bt, H⟩ := bnd H
 refine wp_mid' (fun a' w' => ∃ (ei : Array Value) (cy : Heap), a' = ⟨ei, []⟩ ∧ Kn 167 [(a, 0)] [(tP 5 0 0), (tS 1 a_plan plan.length c_plan), (2, .one (.c (.int .u8 which.n))), (3, .one (.c (.int .u8 at_.n))), (4, .one (.c (.int .u8 by_.n))), (tB 28 eh)] ei ∧ Mem ⟨w, h, noX⟩ cy [(a, 0)] [⟨(K13c2 b s d f g), some 74⟩] [] w' ∧ Heap.le h cy) ?_ ?_
 ·
  refine wp_region_from (Rk 0 1 ((tA 21 (K13c2 b s d f g)) :: (K13m11 a_plan plan c_plan which at_ by_)) hl c4 fun m3 ht => ?_)
  obtain ⟨x22, ex22, bt⟩ := bnd bt
  refine wl fun K hK => ?_
  refine wc [.agg (K13c2 b s d f g)] ht c4 (law_small_ok n c4.has s ((rep_pair (rep_slice ae) (rep_pair rep_int (rep_slice af))) : rep h s _) ex22) fun n7 mb op gp fc ci => ?_
  obtain rfl := gp
  refine ⟨.one (.c (.bool x22)), rfl, fun lc (h6 : Kn 167 [(a, 0)] ((tB 22 x22) :: (tA 21 (K13c2 b s d f g)) :: (K13m11 a_plan plan c_plan which at_ by_)) lc) => hK _ _ ?_⟩
  refine Rk 2 2 ((tB 24 (!x22)) :: (K13m11 a_plan plan c_plan which at_ by_)) h6 ci fun fz e4 => ?_
  rcases Bool.eq_false_or_eq_true ((!x22)) with b6 | b6
  ·
   rw [b6, cond_true] at bt
   have ih : Kn 167 [(a, 0)] ((tB 24 true) :: (K13m11 a_plan plan c_plan which at_ by_)) fz := (e4.setB 24 true (by rfl) b6).kp
   refine Rk 4 4 ((tB 28 true) :: (K13m11 a_plan plan c_plan which at_ by_)) ih ci fun nf io => ?_
   refine wf ?_
   obtain rfl := Option.some.inj bt
   exact Exists.intro _ ⟨_, rfl, io.kp, ci, fc⟩
  ·
   rw [b6, cond_false] at bt
   have iv : Kn 167 [(a, 0)] ((tB 24 false) :: (K13m11 a_plan plan c_plan which at_ by_)) fz := (e4.setB 24 false (by rfl) b6).kp
   refine Rk 4 4 ((tB 28 (decide (((plan.length : Nat) : Int) > 12))) :: (K13m11 a_plan plan c_plan which at_ by_)) iv ci fun nj iy => ?_
   refine wf ?_
   obtain rfl := Option.some.inj bt
   exact Exists.intro _ ⟨_, rfl, iy.kp, ci, fc⟩
 ·
  rintro _ ot ⟨ei, cy, rfl, du, ck, dz⟩
  replace ae := ae.mono dz
  replace af := af.mono dz
  replace hr_plan := hr_plan.mono dz
  refine wC (eh) du (fun dp => ?_) (fun dp => ?_)
  ·
   rw [dp, cond_true] at H
   refine wp_seq (wp_region_from ?_)
   obtain ⟨x29, ex29, H⟩ := bnd H
   refine wl fun K hK => ?_
   refine wc [] du ck (law_wakes_ok n ck.has  ex29) fun oc md ou gs mh fi => ?_
   obtain rfl := gs
   refine ⟨.one (.c (.bool x29)), rfl, fun lr (jp : Kn 167 [(a, 0)] [(tB 29 x29), (tP 5 0 0), (tS 1 a_plan plan.length c_plan), (2, .one (.c (.int .u8 which.n))), (3, .one (.c (.int .u8 at_.n))), (4, .one (.c (.int .u8 by_.n))), (tB 28 eh)] lr) => hK _ _ ?_⟩
   refine Rk 1 1 [(tB 10 x29)] jp fi fun nu jt => ?_
   refine wf (wp_ret ?_)
   obtain rfl := Option.some.inj H
   exact rt (.one (.c (.bool x29))) jt fi rfl
  ·
   rw [dp, cond_false] at H
   refine wp_skip (wp_seq (wp_region_from (Rk 0 1 ((tA 31 (K13c2 b s d f g)) :: (K13m11 a_plan plan c_plan which at_ by_)) du ck fun ny j0 => ?_)))
   obtain ⟨x32, ex32, H⟩ := bnd H
   refine wl fun K hK => ?_
   refine wc [.agg (K13c2 b s d f g)] j0 ck (law_Shop_ok n ck.has s ((rep_pair (rep_slice ae) (rep_pair rep_int (rep_slice af))) : rep cy s _) ex32) fun oh g6 oy gx d0 fl => ?_
   obtain ⟨_, rfl, ⟨_, _, rfl, ⟨cq, cv, rfl, kr⟩, ⟨_, _, rfl, rfl, ⟨cr, cw, rfl, ks⟩⟩⟩⟩ := gx
   refine ⟨.one (.agg [.slice cq x32.buses.length cv, .int .i64 x32.days, .slice cr x32.pits.length cw]), rfl, fun lw (j1 : Kn 167 [(a, 0)] ((tA 32 [.slice cq x32.buses.length cv, .int .i64 x32.days, .slice cr x32.pits.length cw]) :: (tA 31 (K13c2 b s d f g)) :: (K13m11 a_plan plan c_plan which at_ by_)) lw) => hK _ _ ?_⟩
   obtain ⟨x33, ex33, H⟩ := bnd H
   refine wl fun K hK => ?_
   refine wc [.agg [.slice cq x32.buses.length cv, .int .i64 x32.days, .slice cr x32.pits.length cw]] j1 fl (pit_Best_ok n fl.has x32 ((rep_pair (rep_slice kr) (rep_pair rep_int (rep_slice ks))) : rep g6 x32 _) ex33) fun oi es oz gy d1 bq => ?_
   replace ae := ae.mono (Heap.le_trans d0 d1)
   replace af := af.mono (Heap.le_trans d0 d1)
   replace hr_plan := hr_plan.mono (Heap.le_trans d0 d1)
   obtain ⟨_, _, _, rfl, ⟨aa, ab, rfl, bl⟩, rfl, rfl⟩ := gy
   refine ⟨.tup [.c (.slice aa x33.1.length ab), .c (.int .i64 x33.2.1), .c (.int .i64 x33.2.2)], rfl, fun lx (j2 : Kn 167 [(a, 0)] ((33, .tup [.c (.slice aa x33.1.length ab), .c (.int .i64 x33.2.1), .c (.int .i64 x33.2.2)]) :: (tA 32 [.slice cq x32.buses.length cv, .int .i64 x32.days, .slice cr x32.pits.length cw]) :: (tA 31 (K13c2 b s d f g)) :: (K13m11 a_plan plan c_plan which at_ by_)) lx) => hK _ _ ?_⟩
   refine Rk 3 7 ((tI 13 x33.2.2) :: (K13m13 x33 aa ab a_plan plan c_plan which at_ by_)) j2 bq fun nz j3 => ?_
   refine wf (wp_seq (wp_seq ?_))
   obtain ⟨fv, x, H⟩ := bnd H
   refine wp_mid' (fun a' w' => ∃ (el : Array Value) (b3 : Heap), a' = ⟨el, []⟩ ∧ Kn 167 [(a, 0)] [(tI 12 x33.2.1), (tP 5 0 0), (2, .one (.c (.int .u8 which.n))), (3, .one (.c (.int .u8 at_.n))), (4, .one (.c (.int .u8 by_.n))), (tB 65 fv)] el ∧ Mem ⟨w, h, noX⟩ b3 [(a, 0)] [⟨(K13c2 b s d f g), some 74⟩] [] w' ∧ Heap.le es b3) ?_ ?_
   ·
    refine wp_region_from (Rk 0 3 ((tB 39 (x33.2.2 != 0)) :: (K13m13 x33 aa ab a_plan plan c_plan which at_ by_)) j3 bq fun f3 e9 => ?_)
    rcases Bool.eq_false_or_eq_true ((x33.2.2 != 0)) with ca | ca
    ·
     rw [ca, cond_true] at x
     have j4 : Kn 167 [(a, 0)] ((tB 39 true) :: (K13m13 x33 aa ab a_plan plan c_plan which at_ by_)) f3 := (e9.setB 39 true (by rfl) ca).kp
     refine Rk 3 26 ((tB 65 true) :: (K13m16 x33 which at_ by_)) j4 bq fun n0 j5 => ?_
     refine wf ?_
     obtain rfl := Option.some.inj x
     exact Exists.intro _ ⟨_, rfl, j5.kp, bq, (Heap.le_refl _)⟩
    ·
     rw [ca, cond_false] at x
     have j6 : Kn 167 [(a, 0)] ((tB 39 false) :: (K13m13 x33 aa ab a_plan plan c_plan which at_ by_)) f3 := (e9.setB 39 false (by rfl) ca).kp
     refine Rk 3 1 ((tA 40 (K13c2 b s d f g)) :: (tB 39 false) :: (K13m13 x33 aa ab a_plan plan c_plan which at_ by_)) j6 bq fun n1 fa => ?_
     obtain ⟨x41, ex41, x⟩ := bnd x
     refine wpFrom_loud _ rfl (wantedS_sound fa (by kernel_rfl)) fun K hK => ?_
     refine wc [.agg (K13c2 b s d f g)] fa bq (law_Shop_ok n bq.has s ((rep_pair (rep_slice ae) (rep_pair rep_int (rep_slice af))) : rep es s _) ex41) fun oj mg o0 gz bp d7 => ?_
     replace bl := bl.mono bp
     obtain ⟨_, rfl, ⟨_, _, rfl, ⟨a4, ba, rfl, d8⟩, ⟨_, _, rfl, rfl, ⟨az, a5, rfl, d9⟩⟩⟩⟩ := gz
     refine ⟨.one (.agg (K13c5 a4 x41 ba az a5)), rfl, fun k3 (hg : Kn 167 [(a, 0)] ((tA 41 (K13c5 a4 x41 ba az a5)) :: (tA 40 (K13c2 b s d f g)) :: (tB 39 false) :: (K13m13 x33 aa ab a_plan plan c_plan which at_ by_)) k3) => hK _ _ ?_⟩
     refine Rk 5 1 ((tS 42 aa x33.1.length ab) :: (tA 41 (K13c5 a4 x41 ba az a5)) :: (tB 39 false) :: (K13m13 x33 aa ab a_plan plan c_plan which at_ by_)) hg d7 fun mx eu => ?_
     obtain ⟨x43, ex43, x⟩ := bnd x
     refine wpFrom_loud _ rfl (wantedS_sound eu (by kernel_rfl)) fun K hK => ?_
     refine wp_callO [.c (.slice aa x33.1.length ab)] _ eu d7 rfl rfl (by decide) (by rfl) rfl (fun _ _ => by kernel_rfl) (law_list_own n d7.has x33.1 bl ex43) fun n2 g0 f4 mt gi bc cf => ?_
     obtain ⟨an, ao, ar, rfl, rfl, bn⟩ := gi
     replace cf : Mem ⟨w, h, noX⟩ g0 [(a, 0)] [⟨(K13c2 b s d f g), some 74⟩] [⟨an, x43.length, ao, 3, 1, ar, 0⟩] f4 := cf
     refine ⟨.one (.c (.slice an x43.length ao)), rfl, fun k4 (hi : Kn 167 [(a, 0)] ((tS 43 an x43.length ao) :: (tS 42 aa x33.1.length ab) :: (tA 41 (K13c5 a4 x41 ba az a5)) :: (tB 39 false) :: (K13m13 x33 aa ab a_plan plan c_plan which at_ by_)) k4) => hK _ _ ?_⟩
     refine Rk 7 1 ((tI 44 x33.2.1) :: (tS 43 an x43.length ao) :: (tA 41 (K13c5 a4 x41 ba az a5)) :: (tB 39 false) :: (K13m13 x33 aa ab a_plan plan c_plan which at_ by_)) hi cf fun mz ev => ?_
     obtain ⟨dg, ax, kt, c5⟩ := cf.settle (i := 0) rfl
     replace d8 := d8.mono (Heap.le_trans bc ax)
     replace d9 := d9.mono (Heap.le_trans bc ax)
     replace bn := bn.mono ax
     replace c5 : Mem ⟨w, h, noX⟩ dg [(a, 0)] [⟨(K13c2 b s d f g), some 74⟩] [⟨an, x43.length, ao, 3, 1, ar, (ar : List Value).length⟩] f4 := c5
     have cl : RepS dg an ao x43 := ⟨_, bn, kt, cf.rowCap (i := 0) rfl⟩
     obtain ⟨x45, ex45, x⟩ := bnd x
     refine wpFrom_loud _ rfl (wantedS_sound ev (by kernel_rfl)) fun K hK => ?_
     refine wc [.agg (K13c5 a4 x41 ba az a5), .c (.slice an x43.length ao), .c (.int .i64 x33.2.1)] ev c5 (pit_ProvePlan_ok n c5.has x41 ((rep_pair (rep_slice d8) (rep_pair rep_int (rep_slice d9))) : rep dg x41 _) x43 cl x33.2.1 ex45) fun n3 g1 ok gj bd bw => ?_
     replace ae := ae.mono (Heap.le_trans (Heap.le_trans (Heap.le_trans bp bc) ax) bd)
     replace af := af.mono (Heap.le_trans (Heap.le_trans (Heap.le_trans bp bc) ax) bd)
     replace hr_plan := hr_plan.mono (Heap.le_trans (Heap.le_trans (Heap.le_trans bp bc) ax) bd)
     replace bl := bl.mono (Heap.le_trans (Heap.le_trans bc ax) bd)
     replace cl := cl.mono bd
     replace bn := bn.mono bd
     obtain rfl := gj
     refine ⟨.one (.c (.bool x45)), rfl, fun k5 (hn : Kn 167 [(a, 0)] ((tB 45 x45) :: (tI 44 x33.2.1) :: (tS 43 an x43.length ao) :: (tA 41 (K13c5 a4 x41 ba az a5)) :: (tB 39 false) :: (K13m13 x33 aa ab a_plan plan c_plan which at_ by_)) k5) => hK _ _ ?_⟩
     refine Rk 9 3 ((tB 48 (!x45)) :: (K13m13 x33 aa ab a_plan plan c_plan which at_ by_)) hn bw fun fw ew => ?_
     rcases Bool.eq_false_or_eq_true ((!x45)) with b4 | b4
     ·
      rw [b4, cond_true] at x
      have ho : Kn 167 [(a, 0)] ((tB 48 true) :: (K13m13 x33 aa ab a_plan plan c_plan which at_ by_)) fw := (ew.setB 48 true (by rfl) b4).kp
      refine Rk 12 17 ((tB 65 true) :: (K13m16 x33 which at_ by_)) ho bw fun m0 hp => ?_
      refine wf ?_
      obtain rfl := Option.some.inj x
      exact Exists.intro _ ⟨_, rfl, hp.kp, (bw.cutRw 0), (Heap.le_trans bp (Heap.le_trans bc (Heap.le_trans ax bd)))⟩
     ·
      rw [b4, cond_false] at x
      have hq : Kn 167 [(a, 0)] ((tB 48 false) :: (K13m13 x33 aa ab a_plan plan c_plan which at_ by_)) fw := (ew.setB 48 false (by rfl) b4).kp
      refine Rk 12 1 ((tA 49 (K13c2 b s d f g)) :: (tB 48 false) :: (K13m13 x33 aa ab a_plan plan c_plan which at_ by_)) hq bw fun m1 ex => ?_
      obtain ⟨x50, ex50, x⟩ := bnd x
      refine wpFrom_loud _ rfl (wantedS_sound ex (by kernel_rfl)) fun K hK => ?_
      refine wc [.agg (K13c2 b s d f g)] ex bw (law_Shop_ok n bw.has s ((rep_pair (rep_slice ae) (rep_pair rep_int (rep_slice af))) : rep g1 s _) ex50) fun n4 l9 ol gk bk d2 => ?_
      replace bl := bl.mono bk
      obtain ⟨_, rfl, ⟨_, _, rfl, ⟨a0, a6, rfl, ea⟩, ⟨_, _, rfl, rfl, ⟨a1, a7, rfl, eb⟩⟩⟩⟩ := gk
      refine ⟨.one (.agg (K13c6 a0 x50 a6 a1 a7)), rfl, fun k6 (hr : Kn 167 [(a, 0)] ((tA 50 (K13c6 a0 x50 a6 a1 a7)) :: (tA 49 (K13c2 b s d f g)) :: (tB 48 false) :: (K13m13 x33 aa ab a_plan plan c_plan which at_ by_)) k6) => hK _ _ ?_⟩
      refine Rk 14 1 ((tS 51 aa x33.1.length ab) :: (tA 50 (K13c6 a0 x50 a6 a1 a7)) :: (tB 48 false) :: (tI 12 x33.2.1) :: (K13m11 a_plan plan c_plan which at_ by_)) hr d2 fun m2 ey => ?_
      obtain ⟨x52, ex52, x⟩ := bnd x
      refine wpFrom_loud _ rfl (wantedS_sound ey (by kernel_rfl)) fun K hK => ?_
      refine wp_callO [.c (.slice aa x33.1.length ab)] _ ey d2 rfl rfl (by decide) (by rfl) rfl (fun _ _ => by kernel_rfl) (law_list_own n d2.has x33.1 bl ex52) fun n5 g2 f5 mu gl be cg => ?_
      obtain ⟨au, av, br, rfl, rfl, cb⟩ := gl
      replace cg : Mem ⟨w, h, noX⟩ g2 [(a, 0)] [⟨(K13c2 b s d f g), some 74⟩] [⟨an, x43.length, ao, 3, 1, ar, (ar : List Value).length⟩, ⟨au, x52.length, av, 3, 1, br, 0⟩] f5 := cg
      refine ⟨.one (.c (.slice au x52.length av)), rfl, fun k7 (hs : Kn 167 [(a, 0)] ((tS 52 au x52.length av) :: (tS 51 aa x33.1.length ab) :: (tA 50 (K13c6 a0 x50 a6 a1 a7)) :: (tB 48 false) :: (tI 12 x33.2.1) :: (K13m11 a_plan plan c_plan which at_ by_)) k7) => hK _ _ ?_⟩
      refine Rk 16 2 ((tI 54 (IntKind.i64.wrap (x33.2.1 - 1))) :: (tS 52 au x52.length av) :: (tA 50 (K13c6 a0 x50 a6 a1 a7)) :: (tB 48 false) :: (tI 12 x33.2.1) :: (K13m11 a_plan plan c_plan which at_ by_)) hs cg fun m4 ez => ?_
      obtain ⟨dh, ay, ku, c6⟩ := cg.settle (i := 1) rfl
      replace ea := ea.mono (Heap.le_trans be ay)
      replace eb := eb.mono (Heap.le_trans be ay)
      replace cb := cb.mono ay
      replace c6 : Mem ⟨w, h, noX⟩ dh [(a, 0)] [⟨(K13c2 b s d f g), some 74⟩] [⟨an, x43.length, ao, 3, 1, ar, (ar : List Value).length⟩, ⟨au, x52.length, av, 3, 1, br, (br : List Value).length⟩] f5 := c6
      have ec : RepS dh au av x52 := ⟨_, cb, ku, cg.rowCap (i := 1) rfl⟩
      obtain ⟨x55, ex55, x⟩ := bnd x
      refine wpFrom_loud _ rfl (wantedS_sound ez (by kernel_rfl)) fun K hK => ?_
      refine wc [.agg (K13c6 a0 x50 a6 a1 a7), .c (.slice au x52.length av), .c (.int .i64 (IntKind.i64.wrap (x33.2.1 - 1)))] ez c6 (pit_ProvePlan_ok n c6.has x50 ((rep_pair (rep_slice ea) (rep_pair rep_int (rep_slice eb))) : rep dh x50 _) x52 ec (IntKind.i64.wrap (x33.2.1 - 1)) ex55) fun n6 g3 om gm bf bx => ?_
      replace ae := ae.mono (Heap.le_trans (Heap.le_trans (Heap.le_trans bk be) ay) bf)
      replace af := af.mono (Heap.le_trans (Heap.le_trans (Heap.le_trans bk be) ay) bf)
      replace hr_plan := hr_plan.mono (Heap.le_trans (Heap.le_trans (Heap.le_trans bk be) ay) bf)
      replace cl := cl.mono (Heap.le_trans (Heap.le_trans (Heap.le_trans bk be) ay) bf)
      replace ec := ec.mono bf
      replace bn := bn.mono (Heap.le_trans (Heap.le_trans (Heap.le_trans bk be) ay) bf)
      replace cb := cb.mono bf
      obtain rfl := gm
      refine ⟨.one (.c (.bool x55)), rfl, fun k8 (hu : Kn 167 [(a, 0)] ((tB 55 x55) :: (tI 54 (IntKind.i64.wrap (x33.2.1 - 1))) :: (tS 52 au x52.length av) :: (tA 50 (K13c6 a0 x50 a6 a1 a7)) :: (tB 48 false) :: (tI 12 x33.2.1) :: (K13m11 a_plan plan c_plan which at_ by_)) k8) => hK _ _ ?_⟩
      refine Rk 19 2 ((tB 57 x55) :: (tI 12 x33.2.1) :: (K13m11 a_plan plan c_plan which at_ by_)) hu bx fun fx e0 => ?_
      rcases Bool.eq_false_or_eq_true (x55) with b5 | b5
      ·
       rw [b5, cond_true] at x
       have hv : Kn 167 [(a, 0)] ((tB 57 true) :: (tI 12 x33.2.1) :: (K13m11 a_plan plan c_plan which at_ by_)) fx := (e0.setB 57 true (by rfl) b5).kp
       refine Rk 21 8 ((tB 65 true) :: (K13m16 x33 which at_ by_)) hv bx fun m5 hw => ?_
       refine wf ?_
       obtain rfl := Option.some.inj x
       exact Exists.intro _ ⟨_, rfl, hw.kp, (bx.cutRw 0), (Heap.le_trans bp (Heap.le_trans bc (Heap.le_trans ax (Heap.le_trans bd (Heap.le_trans bk (Heap.le_trans be (Heap.le_trans ay bf)))))))⟩
      ·
       rw [b5, cond_false] at x
       have hx : Kn 167 [(a, 0)] ((tB 57 false) :: (tI 12 x33.2.1) :: (K13m11 a_plan plan c_plan which at_ by_)) fx := (e0.setB 57 false (by rfl) b5).kp
       refine Rk 21 1 ((tA 58 (K13c2 b s d f g)) :: (tB 57 false) :: (tI 12 x33.2.1) :: (K13m11 a_plan plan c_plan which at_ by_)) hx bx fun m6 e1 => ?_
       obtain ⟨x59, ex59, x⟩ := bnd x
       refine wpFrom_loud _ rfl (wantedS_sound e1 (by kernel_rfl)) fun K hK => ?_
       refine wc [.agg (K13c2 b s d f g)] e1 bx (law_Shop_ok n bx.has s ((rep_pair (rep_slice ae) (rep_pair rep_int (rep_slice af))) : rep g3 s _) ex59) fun n8 ma oo gn fb d3 => ?_
       replace hr_plan := hr_plan.mono fb
       obtain ⟨_, rfl, ⟨_, _, rfl, ⟨a2, a8, rfl, ed⟩, ⟨_, _, rfl, rfl, ⟨a3, a9, rfl, ee⟩⟩⟩⟩ := gn
       refine ⟨.one (.agg (K13c7 a2 x59 a8 a3 a9)), rfl, fun k9 (hy : Kn 167 [(a, 0)] ((tA 59 (K13c7 a2 x59 a8 a3 a9)) :: (tA 58 (K13c2 b s d f g)) :: (tB 57 false) :: (tI 12 x33.2.1) :: (K13m11 a_plan plan c_plan which at_ by_)) k9) => hK _ _ ?_⟩
       refine Rk 23 1 ((tS 60 a_plan plan.length c_plan) :: (tA 59 (K13c7 a2 x59 a8 a3 a9)) :: (tB 57 false) :: (K13m16 x33 which at_ by_)) hy d3 fun m7 e2 => ?_
       obtain ⟨x61, ex61, x⟩ := bnd x
       refine wpFrom_loud _ rfl (wantedS_sound e2 (by kernel_rfl)) fun K hK => ?_
       refine wp_callO [.c (.slice a_plan plan.length c_plan)] _ e2 d3 rfl rfl (by decide) (by rfl) rfl (fun _ _ => by kernel_rfl) (law_list_own n d3.has plan hr_plan ex61) fun n9 g4 f6 mv go dy ch => ?_
       obtain ⟨bh, bi, em, rfl, rfl, dr⟩ := go
       replace ch : Mem ⟨w, h, noX⟩ g4 [(a, 0)] [⟨(K13c2 b s d f g), some 74⟩] [⟨an, x43.length, ao, 3, 1, ar, (ar : List Value).length⟩, ⟨au, x52.length, av, 3, 1, br, (br : List Value).length⟩, ⟨bh, x61.length, bi, 3, 1, em, 0⟩] f6 := ch
       refine ⟨.one (.c (.slice bh x61.length bi)), rfl, fun la (hz : Kn 167 [(a, 0)] ((tS 61 bh x61.length bi) :: (tS 60 a_plan plan.length c_plan) :: (tA 59 (K13c7 a2 x59 a8 a3 a9)) :: (tB 57 false) :: (K13m16 x33 which at_ by_)) la) => hK _ _ ?_⟩
       refine Rk 25 2 ((tI 63 (IntKind.i64.wrap (x33.2.1 - 1))) :: (tS 61 bh x61.length bi) :: (tA 59 (K13c7 a2 x59 a8 a3 a9)) :: (tB 57 false) :: (K13m16 x33 which at_ by_)) hz ch fun m8 e3 => ?_
       obtain ⟨di, c1, kv, c7⟩ := ch.settle (i := 2) rfl
       replace ed := ed.mono (Heap.le_trans dy c1)
       replace ee := ee.mono (Heap.le_trans dy c1)
       replace dr := dr.mono c1
       replace c7 : Mem ⟨w, h, noX⟩ di [(a, 0)] [⟨(K13c2 b s d f g), some 74⟩] [⟨an, x43.length, ao, 3, 1, ar, (ar : List Value).length⟩, ⟨au, x52.length, av, 3, 1, br, (br : List Value).length⟩, ⟨bh, x61.length, bi, 3, 1, em, (em : List Value).length⟩] f6 := c7
       have kn : RepS di bh bi x61 := ⟨_, dr, kv, ch.rowCap (i := 2) rfl⟩
       obtain ⟨x64, ex64, x⟩ := bnd x
       refine wpFrom_loud _ rfl (wantedS_sound e3 (by kernel_rfl)) fun K hK => ?_
       refine wc [.agg (K13c7 a2 x59 a8 a3 a9), .c (.slice bh x61.length bi), .c (.int .i64 (IntKind.i64.wrap (x33.2.1 - 1)))] e3 c7 (pit_ProvePlan_ok n c7.has x59 ((rep_pair (rep_slice ed) (rep_pair rep_int (rep_slice ee))) : rep di x59 _) x61 kn (IntKind.i64.wrap (x33.2.1 - 1)) ex64) fun oa mc oq gq j8 fg => ?_
       obtain rfl := gq
       refine ⟨.one (.c (.bool x64)), rfl, fun lb (h0 : Kn 167 [(a, 0)] ((tB 64 x64) :: (tI 63 (IntKind.i64.wrap (x33.2.1 - 1))) :: (tS 61 bh x61.length bi) :: (tA 59 (K13c7 a2 x59 a8 a3 a9)) :: (tB 57 false) :: (K13m16 x33 which at_ by_)) lb) => hK _ _ ?_⟩
       refine Rk 28 1 ((tB 65 x64) :: (K13m16 x33 which at_ by_)) h0 fg fun m9 h1 => ?_
       refine wf ?_
       obtain rfl := Option.some.inj x
       exact Exists.intro _ ⟨_, rfl, h1.kp, (fg.cutRw 0), (Heap.le_trans bp (Heap.le_trans bc (Heap.le_trans ax (Heap.le_trans bd (Heap.le_trans bk (Heap.le_trans be (Heap.le_trans ay (Heap.le_trans bf (Heap.le_trans fb (Heap.le_trans dy (Heap.le_trans c1 j8)))))))))))⟩
   ·
    rintro _ os ⟨el, b3, rfl, ds, c8, fd⟩
    replace ae := ae.mono fd
    replace af := af.mono fd
    refine wC (fv) ds (fun dk => ?_) (fun dk => ?_)
    ·
     rw [dk, cond_true] at H
     refine wp_seq (wp_region_from (Rk 0 1 [(tB 10 false)] ds c8 fun na h2 => ?_))
     refine wf (wp_ret ?_)
     obtain rfl := Option.some.inj H
     exact rt (.one (.c (.bool false))) h2 c8 rfl
    ·
     rw [dk, cond_false] at H
     refine wp_skip (wp_seq (wp_region_from (Rk 0 1 ((tA 66 (K13c2 b s d f g)) :: (K13m16 x33 which at_ by_)) ds c8 fun nb h3 => ?_)))
     refine wl fun K hK => ?_
     refine wa [.slice none 0 0, .int .i64 0, .slice none 0 0] h3 c8 fun l fy lz (h4 : Kn 167 [(a, 0), (l, 0)] ((tP 14 1 0) :: (tA 66 (K13c2 b s d f g)) :: (K13m16 x33 which at_ by_)) fy) (j9 : Mem ⟨w, h, noX⟩ b3 [(a, 0), (l, 0)] [⟨(K13c2 b s d f g), some 74⟩, ⟨[.slice none 0 0, .int .i64 0, .slice none 0 0], some 74⟩] [] lz) => hK _ _ ?_
     refine wl fun K hK => ?_
     refine wst 1 0 (.agg (K13c2 b s d f g)) (K13c2 b s d f g) h4 j9 fun l0 h5 (d4 : Mem ⟨w, h, noX⟩ b3 [(a, 0), (l, 0)] [⟨(K13c2 b s d f g), some 74⟩, ⟨(K13c2 b s d f g), some 74⟩] [] l0) => hK _ _ ?_
     have h7 : Kn 167 [(a, 0), (l, 0)] ((tP 14 1 0) :: (K13m16 x33 which at_ by_)) fy := h5.kp
     refine wf (wp_seq (wp_region_from (Rk 0 2 ((tS 68 f s.pits.length g) :: (tP 14 1 0) :: (K13m16 x33 which at_ by_)) h7 d4 fun nc h8 => ?_)))
     obtain ⟨x69, ex69, H⟩ := bnd H
     refine wl fun K hK => ?_
     refine wp_callO [.c (.slice f s.pits.length g)] _ h8 d4 rfl rfl (by decide) (by rfl) rfl (fun _ _ => by kernel_rfl) (law_list_own n d4.has s.pits af ex69) fun ob bj l1 mw gr fe c9 => ?_
     replace ae := ae.mono fe
     replace af := af.mono fe
     obtain ⟨m, o, z, rfl, rfl, bb⟩ := gr
     replace c9 : Mem ⟨w, h, noX⟩ bj [(a, 0), (l, 0)] [⟨(K13c2 b s d f g), some 74⟩, ⟨(K13c2 b s d f g), some 74⟩] [⟨m, x69.length, o, 3, 1, z, 0⟩] l1 := c9
     refine ⟨.one (.c (.slice m x69.length o)), rfl, fun ld (h9 : Kn 167 [(a, 0), (l, 0)] ((tS 69 m x69.length o) :: (tS 68 f s.pits.length g) :: (tP 14 1 0) :: (K13m16 x33 which at_ by_)) ld) => hK _ _ ?_⟩
     refine Rk 3 1 ((tP 70 1 2) :: (tS 69 m x69.length o) :: (tP 14 1 0) :: (K13m16 x33 which at_ by_)) h9 c9 fun lf ia => ?_
     refine wl fun K hK => ?_
     refine wst 1 2 (.c (.slice m x69.length o)) [.slice b s.buses.length d, .int .i64 s.days, .slice m x69.length o] ia c9 fun l2 ib (ka : Mem ⟨w, h, noX⟩ bj [(a, 0), (l, 0)] [⟨(K13c2 b s d f g), some 74⟩, ⟨[.slice b s.buses.length d, .int .i64 s.days, .slice m x69.length o], some 74⟩] [⟨m, x69.length, o, 3, 1, z, 0⟩] l2) => hK _ _ ?_
     have ic : Kn 167 [(a, 0), (l, 0)] ((tP 14 1 0) :: (K13m16 x33 which at_ by_)) lf := ib.kp
     refine wf (wp_seq (wp_region_from (wl fun K hK => ?_)))
     refine wS 94 3 [] ic ka fun cn lg l3 (ie : Kn 167 [(a, 0), (l, 0)] ((tS 71 cn 0 0) :: (tP 14 1 0) :: (K13m16 x33 which at_ by_)) lg) (d5 : Mem ⟨w, h, noX⟩ bj [(a, 0), (l, 0)] [⟨(K13c2 b s d f g), some 74⟩, ⟨[.slice b s.buses.length d, .int .i64 s.days, .slice m x69.length o], some 74⟩] [⟨m, x69.length, o, 3, 1, z, 0⟩, ⟨cn, 0, 0, 94, 3, ([] : List Value), 0⟩] l3) => ?_
     have g7 : Cells bj ([] : List Job) ([] : List Value) := Cells.nil
     refine hK _ _ ?_
     refine Rk 1 2 ((tS 73 b s.buses.length d) :: (tS 71 cn 0 0) :: (tP 14 1 0) :: (tI 12 x33.2.1) :: (K13m10 which at_ by_)) ie d5 fun nd ig => ?_
     obtain ⟨u, c0, ky, _⟩ := id ae
     obtain ⟨x74, ex74, H⟩ := bnd H
     obtain ⟨eg, j7⟩ := app_some ex74
     refine wl fun K hK => ?_
     refine wp_append 1 24 s.buses.length _ (x74.length) _ u ig d5 rfl rfl (by decide) rfl (by rfl) (by kernel_rfl) (by rfl) (by rfl) (Cells.len c0) (ky.cell d5.has c0.one) c0.one (by rw [eg]; simp <;> omega) (by rw [eg]; exact j7) (by decide) fun p q ep lh l4 he (ii : Kn 167 [(a, 0), (l, 0)] ((tS 74 p x74.length q) :: (tS 73 b s.buses.length d) :: (tS 71 cn 0 0) :: (tP 14 1 0) :: (tI 12 x33.2.1) :: (K13m10 which at_ by_)) lh) (fh : Mem ⟨w, h, noX⟩ bj [(a, 0), (l, 0)] [⟨(K13c2 b s d f g), some 74⟩, ⟨[.slice b s.buses.length d, .int .i64 s.days, .slice m x69.length o], some 74⟩] [⟨m, x69.length, o, 3, 1, z, 0⟩, ⟨p, x74.length, q, 94, 3, (([] : List Value) ++ u), ep⟩] l4) => ?_
     have aq : Cells bj x74 (([] : List Value) ++ u) := by rw [eg]; exact Cells.append g7 c0
     obtain rfl : ep = 0 := Nat.le_zero.1 he
     refine hK _ _ ?_
     refine Rk 4 1 ((tP 75 1 0) :: (tS 74 p x74.length q) :: (tP 14 1 0) :: (tI 12 x33.2.1) :: (K13m10 which at_ by_)) ii fh fun li ij => ?_
     refine wl fun K hK => ?_
     refine wst 1 0 (.c (.slice p x74.length q)) (K13c3 p x74 q s m x69 o) ij fh fun l5 ik (bz : Mem ⟨w, h, noX⟩ bj [(a, 0), (l, 0)] [⟨(K13c2 b s d f g), some 74⟩, ⟨(K13c3 p x74 q s m x69 o), some 74⟩] [⟨m, x69.length, o, 3, 1, z, 0⟩, ⟨p, x74.length, q, 94, 3, (([] : List Value) ++ u), 0⟩] l5) => hK _ _ ?_
     have il : Kn 167 [(a, 0), (l, 0)] ((tP 14 1 0) :: (tI 12 x33.2.1) :: (K13m10 which at_ by_)) li := ik.kp
     refine wf (wp_seq (wp_region_from (Rk 0 4 (K13m12 by_ x33 which at_) il bz fun ng im => ?_)))
     refine wf (wp_seq (wp_seq ?_))
     obtain ⟨fu, cx, H⟩ := bnd H
     refine wp_mid' (fun a' w' => ∃ (ej : Array Value) (ad : Heap), a' = ⟨ej, []⟩ ∧ Kn 167 [(a, 0), (l, 0)] [(tI 15 (Int.tmod (IntKind.i64.wrap by_.n) 8)), (tP 14 1 0), (tI 12 x33.2.1), (2, .one (.c (.int .u8 which.n))), (3, .one (.c (.int .u8 at_.n))), (tB 87 fu)] ej ∧ Mem ⟨w, h, noX⟩ ad [(a, 0), (l, 0)] [⟨(K13c2 b s d f g), some 74⟩, ⟨(K13c3 p x74 q s m x69 o), some 74⟩] [⟨m, x69.length, o, 3, 1, z, 0⟩, ⟨p, x74.length, q, 94, 3, (([] : List Value) ++ u), 0⟩] w' ∧ Heap.le bj ad) ?_ ?_
     ·
      refine wp_region_from (Rk 0 5 ((tB 83 (((x74.length : Nat) : Int) == 0)) :: (K13m12 by_ x33 which at_)) im bz fun f0 e5 => ?_)
      rcases Bool.eq_false_or_eq_true ((((x74.length : Nat) : Int) == 0)) with b7 | b7
      ·
       rw [b7, cond_true] at cx
       have ip : Kn 167 [(a, 0), (l, 0)] ((tB 83 true) :: (K13m12 by_ x33 which at_)) f0 := (e5.setB 83 true (by rfl) b7).kp
       refine Rk 5 4 ((tB 87 true) :: (K13m12 by_ x33 which at_)) ip bz fun nh iq => ?_
       refine wf ?_
       obtain rfl := Option.some.inj cx
       exact Exists.intro _ ⟨_, rfl, iq.kp, bz, (Heap.le_refl _)⟩
      ·
       rw [b7, cond_false] at cx
       have ir : Kn 167 [(a, 0), (l, 0)] ((tB 83 false) :: (K13m12 by_ x33 which at_)) f0 := (e5.setB 83 false (by rfl) b7).kp
       refine Rk 5 4 ((tB 87 ((Int.tmod which.n 4) == 3)) :: (K13m12 by_ x33 which at_)) ir bz fun ni iu => ?_
       refine wf ?_
       obtain rfl := Option.some.inj cx
       exact Exists.intro _ ⟨_, rfl, iu.kp, bz, (Heap.le_refl _)⟩
     ·
      rintro _ f7 ⟨ej, ad, rfl, dt, am, c2⟩
      replace ae := ae.mono c2
      replace af := af.mono c2
      replace bb := bb.mono c2
      replace aq := aq.mono c2
      obtain ⟨ac, y, H⟩ := bnd H
      refine wp_mid' (fun a' w' => ∃ (ai : Option Addr) (ak : Nat) (b1 : List Value) (aj : Option Addr) (al : Nat) (bs : List Value) (ek : Array Value) (b2 : Heap), a' = ⟨ek, []⟩ ∧ Kn 167 [(a, 0), (l, 0)] [(tP 14 1 0), (tI 12 x33.2.1)] ek ∧ Mem ⟨w, h, noX⟩ b2 [(a, 0), (l, 0)] [⟨(K13c2 b s d f g), some 74⟩, ⟨(K13c4 aj ac al s ai ak), some 74⟩] [⟨ai, ac.1.length, ak, 3, 1, b1, 0⟩, ⟨aj, ac.2.length, al, 94, 3, bs, 0⟩] w' ∧ Heap.le ad b2 ∧ Cells b2 ac.1 b1 ∧ Cells b2 ac.2 bs) ?_ ?_
      ·
       refine wC (fu) dt (fun dl => ?_) (fun dl => ?_)
       ·
        rw [dl, cond_true] at y
        refine wp_seq (wp_region_G (by kernel_rfl) ?_)
        replace am := am.drew
        refine wpG_of_D [] [(a, 0), (l, 0)] [⟨(K13c2 b s d f g), some 74⟩, ⟨(K13c3 p x74 q s m x69 o), some 74⟩] ?_
        refine Dr [0, 1, 2, 3, 4, 5, 6] (dn 6) ((tI 94 ((x69.length : Nat) : Int)) :: (tI 91 (IntKind.i64.wrap at_.n)) :: (tS 89 m x69.length o) :: (K13m15 by_ x33)) dt am fun nk iw => ?_
        obtain ⟨x95, ex95, y⟩ := bnd y
        refine D_rem 7 (fun _ _ _ _ _ h => h) iw rfl rfl (rfl) rfl (by decide) (by kernel_rfl) (by kernel_rfl) am.plOk (by rfl) (by rfl) (nz_some ex95) fun lj (ix : Kn 167 [(a, 0), (l, 0)] ((tI 95 (Int.tmod (IntKind.i64.wrap at_.n) ((x69.length : Nat) : Int))) :: (tI 94 ((x69.length : Nat) : Int)) :: (tI 91 (IntKind.i64.wrap at_.n)) :: (tS 89 m x69.length o) :: (K13m15 by_ x33)) lj) => ?_
        obtain ⟨x96, ex96, y⟩ := bnd y
        obtain ⟨fm, fo, k1⟩ := idx_some ex96
        have dx := lt_of_idx fm fo
        obtain ⟨l7, kz, g8⟩ := cells_get (sz := 1) rfl bb k1
        obtain rfl := kz
        obtain ⟨bm, cz⟩ := row_addr am (i := 0) rfl (b0 := 0 + (Int.tmod (IntKind.i64.wrap at_.n) ((x69.length : Nat) : Int) : Int).toNat * 1) (Nat.lt_of_lt_of_le (Nat.lt_add_of_pos_right (by decide)) (cells_fit (sz := 1) rfl bb dx))
        have cj : Mem ⟨w, h, noX⟩ ad (K13e8 a l bm at_ x69) [⟨(K13c2 b s d f g), some 74⟩, ⟨(K13c3 p x74 q s m x69 o), some 74⟩, ⟨[], none⟩] [⟨m, x69.length, o, 3, 1, z, 0⟩, ⟨p, x74.length, q, 94, 3, (([] : List Value) ++ u), 0⟩] (World.drew f7) := am.addPlc (cs := []) (fun j c hj => by simp at hj) rfl (by kernel_rfl) (by kernel_rfl)
        have et : ∀ (e : Env) k c, ([.int .i64 x96] : List SC)[k]? = some c → (z)[0 + (Int.tmod (IntKind.i64.wrap at_.n) ((x69.length : Nat) : Int) : Int).toNat * 1 + k]? = some (c.den e) := fun e k c hk => g8 k _ (map_get hk)
        refine D_index 8 (Int.tmod (IntKind.i64.wrap at_.n) ((x69.length : Nat) : Int)) [.int .i64 x96] (fun _ _ _ _ _ h => h) rfl rfl (rfl) rfl (by decide) (by kernel_rfl) (by kernel_rfl) ix am.plOk (by rfl) (by rfl) (by rfl) cz (by rfl) fm fo (by kernel_rfl) fun lk (iz : Kn 167 (K13e8 a l bm at_ x69) ((tP 96 2 0) :: (tI 95 (Int.tmod (IntKind.i64.wrap at_.n) ((x69.length : Nat) : Int))) :: (tI 94 ((x69.length : Nat) : Int)) :: (tI 91 (IntKind.i64.wrap at_.n)) :: (tS 89 m x69.length o) :: (K13m15 by_ x33)) lk) => ?_
        refine D_run [9] [9, 8, 7, 6, 5, 4, 3, 2, 1, 0] [16, 15, 14, 12] ((tP 16 2 0) :: (K13m15 by_ x33)) (fun _ _ _ _ _ h => h) iz (PlOk.peek cj.plOk cj 0 2 rfl rfl cz [.int .i64 x96] (et _)) (by kernel_rfl) (by rfl) (by kernel_rfl) fun nl i0 => ?_
        refine wpD_end (by kernel_rfl) (wp_region_from (R_runk 0 8 [104, 103, 14, 12] [(tP 104 2 0), (tI 103 (if (IntKind.i64.wrap (x96 + (Int.tmod (IntKind.i64.wrap by_.n) 8))) < 160 then (IntKind.i64.wrap (x96 + (Int.tmod (IntKind.i64.wrap by_.n) 8))) else 160)), (tP 14 1 0), (tI 12 x33.2.1)] i0 (PlOk.peek cj.plOk cj 0 2 rfl rfl cz [.int .i64 x96] (et _)) (by kernel_rfl) fun ll i1 => ?_))
        obtain ⟨dc, gd, y⟩ := bnd y
        obtain ⟨mj, mo, fq⟩ := upd_some gd
        refine wl fun K hK => ?_
        refine wp_storeRow 0 2 0 (0 + (Int.tmod (IntKind.i64.wrap at_.n) ((x69.length : Nat) : Int) : Int).toNat * 1) (.c (.int .i64 (if (IntKind.i64.wrap (x96 + (Int.tmod (IntKind.i64.wrap by_.n) 8))) < 160 then (IntKind.i64.wrap (x96 + (Int.tmod (IntKind.i64.wrap by_.n) 8))) else 160))) i1 cj rfl rfl (by rfl) (by rfl) rfl rfl cz rfl (by kernel_rfl) (cells_fit (sz := 1) rfl bb dx) fun f8 i2 (kb : Mem ⟨w, h, noX⟩ ad (K13e8 a l bm at_ x69) [⟨(K13c2 b s d f g), some 74⟩, ⟨(K13c3 p x74 q s m x69 o), some 74⟩, ⟨[], none⟩] [⟨m, x69.length, o, 3, 1, (z.take (0 + (Int.tmod (IntKind.i64.wrap at_.n) ((x69.length : Nat) : Int) : Int).toNat * 1 + 0) ++ ([.int .i64 (if (IntKind.i64.wrap (x96 + (Int.tmod (IntKind.i64.wrap by_.n) 8))) < 160 then (IntKind.i64.wrap (x96 + (Int.tmod (IntKind.i64.wrap by_.n) 8))) else 160)] : List Value) ++ z.drop (0 + (Int.tmod (IntKind.i64.wrap at_.n) ((x69.length : Nat) : Int) : Int).toNat * 1 + 0 + 1)), 0⟩, ⟨p, x74.length, q, 94, 3, (([] : List Value) ++ u), 0⟩] f8) => ?_
        have g9 : Cells ad dc (z.take (0 + (Int.tmod (IntKind.i64.wrap at_.n) ((x69.length : Nat) : Int) : Int).toNat * 1 + 0) ++ ([.int .i64 (if (IntKind.i64.wrap (x96 + (Int.tmod (IntKind.i64.wrap by_.n) 8))) < 160 then (IntKind.i64.wrap (x96 + (Int.tmod (IntKind.i64.wrap by_.n) 8))) else 160)] : List Value) ++ z.drop (0 + (Int.tmod (IntKind.i64.wrap at_.n) ((x69.length : Nat) : Int) : Int).toNat * 1 + 0 + 1)) := by rw [fq]; exact cells_set (sz := 1) rfl bb dx (rep_int : rep ad (if (IntKind.i64.wrap (x96 + (Int.tmod (IntKind.i64.wrap by_.n) 8))) < 160 then (IntKind.i64.wrap (x96 + (Int.tmod (IntKind.i64.wrap by_.n) 8))) else 160 : Int) _)
        have kj : x69.length = dc.length := by rw [fq]; simp
        have i3 := i2
        have kc : Mem ⟨w, h, noX⟩ ad [(a, 0), (l, 0), (bm, 0 + (Int.tmod (IntKind.i64.wrap at_.n) ((x69.length : Nat) : Int) : Int).toNat * 1)] [⟨[.slice b s.buses.length d, .int .i64 s.days, .slice f s.pits.length g], some 74⟩, ⟨[.slice p x74.length q, .int .i64 s.days, .slice m dc.length o], some 74⟩, ⟨[], none⟩] [⟨m, dc.length, o, 3, 1, (z.take (0 + (Int.tmod (IntKind.i64.wrap at_.n) ((x69.length : Nat) : Int) : Int).toNat * 1 + 0) ++ ([.int .i64 (if (IntKind.i64.wrap (x96 + (Int.tmod (IntKind.i64.wrap by_.n) 8))) < 160 then (IntKind.i64.wrap (x96 + (Int.tmod (IntKind.i64.wrap by_.n) 8))) else 160)] : List Value) ++ z.drop (0 + (Int.tmod (IntKind.i64.wrap at_.n) ((x69.length : Nat) : Int) : Int).toNat * 1 + 0 + 1)), 0⟩, ⟨p, x74.length, q, 94, 3, (([] : List Value) ++ u), 0⟩] f8 := by rw [← kj]; exact kb
        refine hK _ _ ?_
        have i4 : Kn 167 (K13e8 a l bm at_ x69) [(tP 14 1 0), (tI 12 x33.2.1)] ll := i3.kp
        refine wf ?_
        obtain rfl := Option.some.inj y
        exact Exists.intro m ⟨o, (z.take (0 + (Int.tmod (IntKind.i64.wrap at_.n) ((x69.length : Nat) : Int) : Int).toNat * 1 + 0) ++ ([.int .i64 (if (IntKind.i64.wrap (x96 + (Int.tmod (IntKind.i64.wrap by_.n) 8))) < 160 then (IntKind.i64.wrap (x96 + (Int.tmod (IntKind.i64.wrap by_.n) 8))) else 160)] : List Value) ++ z.drop (0 + (Int.tmod (IntKind.i64.wrap at_.n) ((x69.length : Nat) : Int) : Int).toNat * 1 + 0 + 1)), p, q, (([] : List Value) ++ u), _, _, rfl, ((i4.keep [14, 12] (by rfl)).cut 2 (by kernel_rfl)), (kc.cutPl 2 (by kernel_rfl)), (Heap.le_refl _), g9, aq⟩
       ·
        rw [dl, cond_false] at y
        refine wp_seq (wp_region_G (by kernel_rfl) ?_)
        replace am := am.drew
        refine wpG_of_D [] [(a, 0), (l, 0)] [⟨(K13c2 b s d f g), some 74⟩, ⟨(K13c3 p x74 q s m x69 o), some 74⟩] ?_
        refine Dr [0, 1, 2, 3, 4, 5, 6] (dn 6) (K13m14 x74 at_ p q by_ x33 which) dt am fun nm i5 => ?_
        obtain ⟨x112, ex112, y⟩ := bnd y
        refine D_rem 7 (fun _ _ _ _ _ h => h) i5 rfl rfl (rfl) rfl (by decide) (by kernel_rfl) (by kernel_rfl) am.plOk (by rfl) (by rfl) (nz_some ex112) fun lm (i6 : Kn 167 [(a, 0), (l, 0)] ((tI 112 (Int.tmod (IntKind.i64.wrap at_.n) ((x74.length : Nat) : Int))) :: (K13m14 x74 at_ p q by_ x33 which)) lm) => ?_
        obtain ⟨x113, ex113, y⟩ := bnd y
        obtain ⟨fn, fp, k2⟩ := idx_some ex113
        have bo := lt_of_idx fn fp
        obtain ⟨l8, k0, ha⟩ := cells_get (sz := 3) rfl aq k2
        obtain ⟨_, _, rfl, rfl, ⟨_, _, rfl, rfl, rfl⟩⟩ := k0
        obtain ⟨ah, ap⟩ := row_addr am (i := 1) rfl (b0 := 0 + (Int.tmod (IntKind.i64.wrap at_.n) ((x74.length : Nat) : Int) : Int).toNat * 3) (Nat.lt_of_lt_of_le (Nat.lt_add_of_pos_right (by decide)) (cells_fit (sz := 3) rfl aq bo))
        have ag : Mem ⟨w, h, noX⟩ ad (K13e9 a l ah at_ x74) [⟨(K13c2 b s d f g), some 74⟩, ⟨(K13c3 p x74 q s m x69 o), some 74⟩, ⟨[], none⟩] [⟨m, x69.length, o, 3, 1, z, 0⟩, ⟨p, x74.length, q, 94, 3, (([] : List Value) ++ u), 0⟩] (World.drew f7) := am.addPlc (cs := []) (fun j c hj => by simp at hj) rfl (by kernel_rfl) (by kernel_rfl)
        have aw : ∀ (e : Env) k c, ([.int .i64 x113.due, .int .i64 x113.work, .int .i64 x113.cost] : List SC)[k]? = some c → ((([] : List Value) ++ u))[0 + (Int.tmod (IntKind.i64.wrap at_.n) ((x74.length : Nat) : Int) : Int).toNat * 3 + k]? = some (c.den e) := fun e k c hk => ha k _ (map_get hk)
        refine D_index 8 (Int.tmod (IntKind.i64.wrap at_.n) ((x74.length : Nat) : Int)) (K13c1 x113) (fun _ _ _ _ _ h => h) rfl rfl (rfl) rfl (by decide) (by kernel_rfl) (by kernel_rfl) i6 am.plOk (by rfl) (by rfl) (by rfl) ap (by rfl) fn fp (by kernel_rfl) fun ln (i7 : Kn 167 (K13e9 a l ah at_ x74) ((tP 113 2 0) :: (tI 112 (Int.tmod (IntKind.i64.wrap at_.n) ((x74.length : Nat) : Int))) :: (K13m14 x74 at_ p q by_ x33 which)) ln) => ?_
        refine D_run [9] [9, 8, 7, 6, 5, 4, 3, 2, 1, 0] [17, 15, 14, 12, 2] [(tP 17 2 0), (tI 15 (Int.tmod (IntKind.i64.wrap by_.n) 8)), (tP 14 1 0), (tI 12 x33.2.1), (2, .one (.c (.int .u8 which.n)))] (fun _ _ _ _ _ h => h) i7 (PlOk.peek ag.plOk ag 1 2 rfl rfl ap (K13c1 x113) (aw _)) (by kernel_rfl) (by rfl) (by kernel_rfl) fun nn i8 => ?_
        refine wpD_end (by kernel_rfl) (wp_seq (wp_region_from (R_runk 0 2 [115, 17, 15, 14, 12] ((115, .one (.c (.int .u8 (Int.tmod which.n 4)))) :: (tP 17 2 0) :: (K13m15 by_ x33)) i8 (PlOk.peek ag.plOk ag 1 2 rfl rfl ap (K13c1 x113) (aw _)) (by kernel_rfl) fun np i9 => ?_)))
        refine wf (wp_block (wp_seq (wp_region_from (R_runk 0 2 [126, 115, 17, 15, 14, 12] ((tB 126 ((Int.tmod which.n 4) == 0)) :: (115, .one (.c (.int .u8 (Int.tmod which.n 4)))) :: (tP 17 2 0) :: (K13m15 by_ x33)) i9 (PlOk.peek ag.plOk ag 1 2 rfl rfl ap (K13c1 x113) (aw _)) (by kernel_rfl) fun nq dv => ?_))))
        refine wf (wC (((Int.tmod which.n 4) == 0)) dv (fun dm => ?_) (fun dm => ?_))
        ·
         rw [dm, cond_true] at y
         refine wp_region_from (R_runk 0 10 [137, 135, 14, 12] [(tP 137 2 2), (tI 135 (if (IntKind.i64.wrap (x113.cost - (Int.tmod (IntKind.i64.wrap by_.n) 8))) > 0 then (IntKind.i64.wrap (x113.cost - (Int.tmod (IntKind.i64.wrap by_.n) 8))) else 0)), (tP 14 1 0), (tI 12 x33.2.1)] dv (PlOk.peek ag.plOk ag 1 2 rfl rfl ap (K13c1 x113) (aw _)) (by kernel_rfl) fun lo ja => ?_)
         obtain ⟨dd, gf, y⟩ := bnd y
         obtain ⟨ml, mp, fr⟩ := upd_some gf
         refine wl fun K hK => ?_
         refine wp_storeRow 1 2 2 (0 + (Int.tmod (IntKind.i64.wrap at_.n) ((x74.length : Nat) : Int) : Int).toNat * 3) (.c (.int .i64 (if (IntKind.i64.wrap (x113.cost - (Int.tmod (IntKind.i64.wrap by_.n) 8))) > 0 then (IntKind.i64.wrap (x113.cost - (Int.tmod (IntKind.i64.wrap by_.n) 8))) else 0))) ja ag rfl rfl (by rfl) (by rfl) rfl rfl ap rfl (by kernel_rfl) (cells_fitP (sz := 3) 2 1 rfl aq bo (Nat.le_of_ble_eq_true rfl)) fun f9 jb (kd : Mem ⟨w, h, noX⟩ ad (K13e9 a l ah at_ x74) [⟨(K13c2 b s d f g), some 74⟩, ⟨(K13c3 p x74 q s m x69 o), some 74⟩, ⟨[], none⟩] [⟨m, x69.length, o, 3, 1, z, 0⟩, ⟨p, x74.length, q, 94, 3, ((([] : List Value) ++ u).take (0 + (Int.tmod (IntKind.i64.wrap at_.n) ((x74.length : Nat) : Int) : Int).toNat * 3 + 2) ++ ([.int .i64 (if (IntKind.i64.wrap (x113.cost - (Int.tmod (IntKind.i64.wrap by_.n) 8))) > 0 then (IntKind.i64.wrap (x113.cost - (Int.tmod (IntKind.i64.wrap by_.n) 8))) else 0)] : List Value) ++ (([] : List Value) ++ u).drop (0 + (Int.tmod (IntKind.i64.wrap at_.n) ((x74.length : Nat) : Int) : Int).toNat * 3 + 2 + 1)), 0⟩] f9) => ?_
         have hb : Cells ad dd ((([] : List Value) ++ u).take (0 + (Int.tmod (IntKind.i64.wrap at_.n) ((x74.length : Nat) : Int) : Int).toNat * 3 + 2) ++ ([.int .i64 (if (IntKind.i64.wrap (x113.cost - (Int.tmod (IntKind.i64.wrap by_.n) 8))) > 0 then (IntKind.i64.wrap (x113.cost - (Int.tmod (IntKind.i64.wrap by_.n) 8))) else 0)] : List Value) ++ (([] : List Value) ++ u).drop (0 + (Int.tmod (IntKind.i64.wrap at_.n) ((x74.length : Nat) : Int) : Int).toNat * 3 + 2 + 1)) := by rw [fr]; exact cells_setPart (sz := 3) (cs := [.int .i64 x113.due, .int .i64 x113.work, .int .i64 x113.cost]) [(a, 0), (l, 0), (ah, 0 + (Int.tmod (IntKind.i64.wrap at_.n) ((x74.length : Nat) : Int) : Int).toNat * 3)] 2 rfl aq bo (aw _) rfl (Nat.le_of_ble_eq_true rfl) ((rep_pair rep_int (rep_pair rep_int rep_int)) : rep ad ((Job.mk x113.due x113.work (if (IntKind.i64.wrap (x113.cost - (Int.tmod (IntKind.i64.wrap by_.n) 8))) > 0 then (IntKind.i64.wrap (x113.cost - (Int.tmod (IntKind.i64.wrap by_.n) 8))) else 0)) : Job) _)
         have kk : x74.length = dd.length := by rw [fr]; simp
         have jc := jb
         have ke : Mem ⟨w, h, noX⟩ ad [(a, 0), (l, 0), (ah, 0 + (Int.tmod (IntKind.i64.wrap at_.n) ((x74.length : Nat) : Int) : Int).toNat * 3)] [⟨[.slice b s.buses.length d, .int .i64 s.days, .slice f s.pits.length g], some 74⟩, ⟨[.slice p dd.length q, .int .i64 s.days, .slice m x69.length o], some 74⟩, ⟨[], none⟩] [⟨m, x69.length, o, 3, 1, z, 0⟩, ⟨p, dd.length, q, 94, 3, ((([] : List Value) ++ u).take (0 + (Int.tmod (IntKind.i64.wrap at_.n) ((x74.length : Nat) : Int) : Int).toNat * 3 + 2) ++ ([.int .i64 (if (IntKind.i64.wrap (x113.cost - (Int.tmod (IntKind.i64.wrap by_.n) 8))) > 0 then (IntKind.i64.wrap (x113.cost - (Int.tmod (IntKind.i64.wrap by_.n) 8))) else 0)] : List Value) ++ (([] : List Value) ++ u).drop (0 + (Int.tmod (IntKind.i64.wrap at_.n) ((x74.length : Nat) : Int) : Int).toNat * 3 + 2 + 1)), 0⟩] f9 := by rw [← kk]; exact kd
         refine hK _ _ ?_
         have jd : Kn 167 (K13e9 a l ah at_ x74) [(tP 14 1 0), (tI 12 x33.2.1)] lo := jc.kp
         refine wf ?_
         obtain rfl := Option.some.inj y
         exact Exists.intro m ⟨o, z, p, q, ((([] : List Value) ++ u).take (0 + (Int.tmod (IntKind.i64.wrap at_.n) ((x74.length : Nat) : Int) : Int).toNat * 3 + 2) ++ ([.int .i64 (if (IntKind.i64.wrap (x113.cost - (Int.tmod (IntKind.i64.wrap by_.n) 8))) > 0 then (IntKind.i64.wrap (x113.cost - (Int.tmod (IntKind.i64.wrap by_.n) 8))) else 0)] : List Value) ++ (([] : List Value) ++ u).drop (0 + (Int.tmod (IntKind.i64.wrap at_.n) ((x74.length : Nat) : Int) : Int).toNat * 3 + 2 + 1)), _, _, rfl, ((jd.keep [14, 12] (by rfl)).cut 2 (by kernel_rfl)), (ke.cutPl 2 (by kernel_rfl)), (Heap.le_refl _), bb, hb⟩
        ·
         rw [dm, cond_false] at y
         refine wp_seq (wp_region_from (R_runk 0 2 [138, 17, 15, 14, 12] ((tB 138 ((Int.tmod which.n 4) == 1)) :: (tP 17 2 0) :: (K13m15 by_ x33)) dv (PlOk.peek ag.plOk ag 1 2 rfl rfl ap (K13c1 x113) (aw _)) (by kernel_rfl) fun nr dw => ?_))
         refine wf (wC (((Int.tmod which.n 4) == 1)) dw (fun dq => ?_) (fun dq => ?_))
         ·
          rw [dq, cond_true] at y
          refine wp_region_from (R_runk 0 10 [149, 147, 14, 12] [(tP 149 2 1), (tI 147 (if (IntKind.i64.wrap (x113.work - (Int.tmod (IntKind.i64.wrap by_.n) 8))) > 1 then (IntKind.i64.wrap (x113.work - (Int.tmod (IntKind.i64.wrap by_.n) 8))) else 1)), (tP 14 1 0), (tI 12 x33.2.1)] dw (PlOk.peek ag.plOk ag 1 2 rfl rfl ap (K13c1 x113) (aw _)) (by kernel_rfl) fun lp je => ?_)
          obtain ⟨de, gg, y⟩ := bnd y
          obtain ⟨mm, mq, fs⟩ := upd_some gg
          refine wl fun K hK => ?_
          refine wp_storeRow 1 2 1 (0 + (Int.tmod (IntKind.i64.wrap at_.n) ((x74.length : Nat) : Int) : Int).toNat * 3) (.c (.int .i64 (if (IntKind.i64.wrap (x113.work - (Int.tmod (IntKind.i64.wrap by_.n) 8))) > 1 then (IntKind.i64.wrap (x113.work - (Int.tmod (IntKind.i64.wrap by_.n) 8))) else 1))) je ag rfl rfl (by rfl) (by rfl) rfl rfl ap rfl (by kernel_rfl) (cells_fitP (sz := 3) 1 1 rfl aq bo (Nat.le_of_ble_eq_true rfl)) fun ga jf (kf : Mem ⟨w, h, noX⟩ ad (K13e9 a l ah at_ x74) [⟨(K13c2 b s d f g), some 74⟩, ⟨(K13c3 p x74 q s m x69 o), some 74⟩, ⟨[], none⟩] [⟨m, x69.length, o, 3, 1, z, 0⟩, ⟨p, x74.length, q, 94, 3, ((([] : List Value) ++ u).take (0 + (Int.tmod (IntKind.i64.wrap at_.n) ((x74.length : Nat) : Int) : Int).toNat * 3 + 1) ++ ([.int .i64 (if (IntKind.i64.wrap (x113.work - (Int.tmod (IntKind.i64.wrap by_.n) 8))) > 1 then (IntKind.i64.wrap (x113.work - (Int.tmod (IntKind.i64.wrap by_.n) 8))) else 1)] : List Value) ++ (([] : List Value) ++ u).drop (0 + (Int.tmod (IntKind.i64.wrap at_.n) ((x74.length : Nat) : Int) : Int).toNat * 3 + 1 + 1)), 0⟩] ga) => ?_
          have hc : Cells ad de ((([] : List Value) ++ u).take (0 + (Int.tmod (IntKind.i64.wrap at_.n) ((x74.length : Nat) : Int) : Int).toNat * 3 + 1) ++ ([.int .i64 (if (IntKind.i64.wrap (x113.work - (Int.tmod (IntKind.i64.wrap by_.n) 8))) > 1 then (IntKind.i64.wrap (x113.work - (Int.tmod (IntKind.i64.wrap by_.n) 8))) else 1)] : List Value) ++ (([] : List Value) ++ u).drop (0 + (Int.tmod (IntKind.i64.wrap at_.n) ((x74.length : Nat) : Int) : Int).toNat * 3 + 1 + 1)) := by rw [fs]; exact cells_setPart (sz := 3) (cs := [.int .i64 x113.due, .int .i64 x113.work, .int .i64 x113.cost]) [(a, 0), (l, 0), (ah, 0 + (Int.tmod (IntKind.i64.wrap at_.n) ((x74.length : Nat) : Int) : Int).toNat * 3)] 1 rfl aq bo (aw _) rfl (Nat.le_of_ble_eq_true rfl) ((rep_pair rep_int (rep_pair rep_int rep_int)) : rep ad ((Job.mk x113.due (if (IntKind.i64.wrap (x113.work - (Int.tmod (IntKind.i64.wrap by_.n) 8))) > 1 then (IntKind.i64.wrap (x113.work - (Int.tmod (IntKind.i64.wrap by_.n) 8))) else 1) x113.cost) : Job) _)
          have kl : x74.length = de.length := by rw [fs]; simp
          have jg := jf
          have kg : Mem ⟨w, h, noX⟩ ad [(a, 0), (l, 0), (ah, 0 + (Int.tmod (IntKind.i64.wrap at_.n) ((x74.length : Nat) : Int) : Int).toNat * 3)] [⟨[.slice b s.buses.length d, .int .i64 s.days, .slice f s.pits.length g], some 74⟩, ⟨[.slice p de.length q, .int .i64 s.days, .slice m x69.length o], some 74⟩, ⟨[], none⟩] [⟨m, x69.length, o, 3, 1, z, 0⟩, ⟨p, de.length, q, 94, 3, ((([] : List Value) ++ u).take (0 + (Int.tmod (IntKind.i64.wrap at_.n) ((x74.length : Nat) : Int) : Int).toNat * 3 + 1) ++ ([.int .i64 (if (IntKind.i64.wrap (x113.work - (Int.tmod (IntKind.i64.wrap by_.n) 8))) > 1 then (IntKind.i64.wrap (x113.work - (Int.tmod (IntKind.i64.wrap by_.n) 8))) else 1)] : List Value) ++ (([] : List Value) ++ u).drop (0 + (Int.tmod (IntKind.i64.wrap at_.n) ((x74.length : Nat) : Int) : Int).toNat * 3 + 1 + 1)), 0⟩] ga := by rw [← kl]; exact kf
          refine hK _ _ ?_
          have jh : Kn 167 (K13e9 a l ah at_ x74) [(tP 14 1 0), (tI 12 x33.2.1)] lp := jg.kp
          refine wf ?_
          obtain rfl := Option.some.inj y
          exact Exists.intro m ⟨o, z, p, q, ((([] : List Value) ++ u).take (0 + (Int.tmod (IntKind.i64.wrap at_.n) ((x74.length : Nat) : Int) : Int).toNat * 3 + 1) ++ ([.int .i64 (if (IntKind.i64.wrap (x113.work - (Int.tmod (IntKind.i64.wrap by_.n) 8))) > 1 then (IntKind.i64.wrap (x113.work - (Int.tmod (IntKind.i64.wrap by_.n) 8))) else 1)] : List Value) ++ (([] : List Value) ++ u).drop (0 + (Int.tmod (IntKind.i64.wrap at_.n) ((x74.length : Nat) : Int) : Int).toNat * 3 + 1 + 1)), _, _, rfl, ((jh.keep [14, 12] (by rfl)).cut 2 (by kernel_rfl)), (kg.cutPl 2 (by kernel_rfl)), (Heap.le_refl _), bb, hc⟩
         ·
          rw [dq, cond_false] at y
          refine wp_region_from (R_runk 0 10 [125, 123, 14, 12] [(tP 125 2 0), (tI 123 (if (IntKind.i64.wrap (x113.due + (Int.tmod (IntKind.i64.wrap by_.n) 8))) < 14 then (IntKind.i64.wrap (x113.due + (Int.tmod (IntKind.i64.wrap by_.n) 8))) else 14)), (tP 14 1 0), (tI 12 x33.2.1)] dw (PlOk.peek ag.plOk ag 1 2 rfl rfl ap (K13c1 x113) (aw _)) (by kernel_rfl) fun lq ji => ?_)
          obtain ⟨df, gh, y⟩ := bnd y
          obtain ⟨mn, mr, ft⟩ := upd_some gh
          refine wl fun K hK => ?_
          refine wp_storeRow 1 2 0 (0 + (Int.tmod (IntKind.i64.wrap at_.n) ((x74.length : Nat) : Int) : Int).toNat * 3) (.c (.int .i64 (if (IntKind.i64.wrap (x113.due + (Int.tmod (IntKind.i64.wrap by_.n) 8))) < 14 then (IntKind.i64.wrap (x113.due + (Int.tmod (IntKind.i64.wrap by_.n) 8))) else 14))) ji ag rfl rfl (by rfl) (by rfl) rfl rfl ap rfl (by kernel_rfl) (cells_fitP (sz := 3) 0 1 rfl aq bo (Nat.le_of_ble_eq_true rfl)) fun gb jj (kh : Mem ⟨w, h, noX⟩ ad (K13e9 a l ah at_ x74) [⟨(K13c2 b s d f g), some 74⟩, ⟨(K13c3 p x74 q s m x69 o), some 74⟩, ⟨[], none⟩] [⟨m, x69.length, o, 3, 1, z, 0⟩, ⟨p, x74.length, q, 94, 3, ((([] : List Value) ++ u).take (0 + (Int.tmod (IntKind.i64.wrap at_.n) ((x74.length : Nat) : Int) : Int).toNat * 3 + 0) ++ ([.int .i64 (if (IntKind.i64.wrap (x113.due + (Int.tmod (IntKind.i64.wrap by_.n) 8))) < 14 then (IntKind.i64.wrap (x113.due + (Int.tmod (IntKind.i64.wrap by_.n) 8))) else 14)] : List Value) ++ (([] : List Value) ++ u).drop (0 + (Int.tmod (IntKind.i64.wrap at_.n) ((x74.length : Nat) : Int) : Int).toNat * 3 + 0 + 1)), 0⟩] gb) => ?_
          have hd : Cells ad df ((([] : List Value) ++ u).take (0 + (Int.tmod (IntKind.i64.wrap at_.n) ((x74.length : Nat) : Int) : Int).toNat * 3 + 0) ++ ([.int .i64 (if (IntKind.i64.wrap (x113.due + (Int.tmod (IntKind.i64.wrap by_.n) 8))) < 14 then (IntKind.i64.wrap (x113.due + (Int.tmod (IntKind.i64.wrap by_.n) 8))) else 14)] : List Value) ++ (([] : List Value) ++ u).drop (0 + (Int.tmod (IntKind.i64.wrap at_.n) ((x74.length : Nat) : Int) : Int).toNat * 3 + 0 + 1)) := by rw [ft]; exact cells_setPart (sz := 3) (cs := [.int .i64 x113.due, .int .i64 x113.work, .int .i64 x113.cost]) [(a, 0), (l, 0), (ah, 0 + (Int.tmod (IntKind.i64.wrap at_.n) ((x74.length : Nat) : Int) : Int).toNat * 3)] 0 rfl aq bo (aw _) rfl (Nat.le_of_ble_eq_true rfl) ((rep_pair rep_int (rep_pair rep_int rep_int)) : rep ad ((Job.mk (if (IntKind.i64.wrap (x113.due + (Int.tmod (IntKind.i64.wrap by_.n) 8))) < 14 then (IntKind.i64.wrap (x113.due + (Int.tmod (IntKind.i64.wrap by_.n) 8))) else 14) x113.work x113.cost) : Job) _)
          have km : x74.length = df.length := by rw [ft]; simp
          have jk := jj
          have ki : Mem ⟨w, h, noX⟩ ad [(a, 0), (l, 0), (ah, 0 + (Int.tmod (IntKind.i64.wrap at_.n) ((x74.length : Nat) : Int) : Int).toNat * 3)] [⟨[.slice b s.buses.length d, .int .i64 s.days, .slice f s.pits.length g], some 74⟩, ⟨[.slice p df.length q, .int .i64 s.days, .slice m x69.length o], some 74⟩, ⟨[], none⟩] [⟨m, x69.length, o, 3, 1, z, 0⟩, ⟨p, df.length, q, 94, 3, ((([] : List Value) ++ u).take (0 + (Int.tmod (IntKind.i64.wrap at_.n) ((x74.length : Nat) : Int) : Int).toNat * 3 + 0) ++ ([.int .i64 (if (IntKind.i64.wrap (x113.due + (Int.tmod (IntKind.i64.wrap by_.n) 8))) < 14 then (IntKind.i64.wrap (x113.due + (Int.tmod (IntKind.i64.wrap by_.n) 8))) else 14)] : List Value) ++ (([] : List Value) ++ u).drop (0 + (Int.tmod (IntKind.i64.wrap at_.n) ((x74.length : Nat) : Int) : Int).toNat * 3 + 0 + 1)), 0⟩] gb := by rw [← km]; exact kh
          refine hK _ _ ?_
          have jl : Kn 167 (K13e9 a l ah at_ x74) [(tP 14 1 0), (tI 12 x33.2.1)] lq := jk.kp
          refine wf ?_
          obtain rfl := Option.some.inj y
          exact Exists.intro m ⟨o, z, p, q, ((([] : List Value) ++ u).take (0 + (Int.tmod (IntKind.i64.wrap at_.n) ((x74.length : Nat) : Int) : Int).toNat * 3 + 0) ++ ([.int .i64 (if (IntKind.i64.wrap (x113.due + (Int.tmod (IntKind.i64.wrap by_.n) 8))) < 14 then (IntKind.i64.wrap (x113.due + (Int.tmod (IntKind.i64.wrap by_.n) 8))) else 14)] : List Value) ++ (([] : List Value) ++ u).drop (0 + (Int.tmod (IntKind.i64.wrap at_.n) ((x74.length : Nat) : Int) : Int).toNat * 3 + 0 + 1)), _, _, rfl, ((jl.keep [14, 12] (by rfl)).cut 2 (by kernel_rfl)), (ki.cutPl 2 (by kernel_rfl)), (Heap.le_refl _), bb, hd⟩
      ·
       rintro _ gc ⟨ai, ak, b1, aj, al, bs, ek, b2, rfl, jm, d6, ff, cc, cd⟩
       refine wp_seq (wp_region_from (Rk 0 1 [(tA 151 (K13c4 aj ac al s ai ak)), (tI 12 x33.2.1)] jm d6 fun ns jn => ?_))
       obtain ⟨er, c3, kw, da⟩ := d6.settle (i := 1) rfl
       replace cd := cd.mono c3
       replace da : Mem ⟨w, h, noX⟩ er [(a, 0), (l, 0)] [⟨(K13c2 b s d f g), some 74⟩, ⟨(K13c4 aj ac al s ai ak), some 74⟩] [⟨ai, ac.1.length, ak, 3, 1, b1, 0⟩, ⟨aj, ac.2.length, al, 94, 3, bs, (bs : List Value).length⟩] gc := da
       have cm : RepS er aj al ac.2 := ⟨_, cd, kw, d6.rowCap (i := 1) rfl⟩
       obtain ⟨dj, ce, kx, db⟩ := da.settle (i := 0) rfl
       replace cm := cm.mono ce
       replace cc := cc.mono (Heap.le_trans c3 ce)
       replace db : Mem ⟨w, h, noX⟩ dj [(a, 0), (l, 0)] [⟨(K13c2 b s d f g), some 74⟩, ⟨(K13c4 aj ac al s ai ak), some 74⟩] [⟨ai, ac.1.length, ak, 3, 1, b1, (b1 : List Value).length⟩, ⟨aj, ac.2.length, al, 94, 3, bs, (bs : List Value).length⟩] gc := db
       have ef : RepS dj ai ak ac.1 := ⟨_, cc, kx, da.rowCap (i := 0) rfl⟩
       obtain ⟨x152, ex152, H⟩ := bnd H
       refine wl fun K hK => ?_
       refine wc [.agg (K13c4 aj ac al s ai ak)] jn db (law_Shop_ok n db.has (Shop.mk ac.2 s.days ac.1) ((rep_pair (rep_slice cm) (rep_pair rep_int (rep_slice ef))) : rep dj (Shop.mk ac.2 s.days ac.1) _) ex152) fun od g5 ov gu bu fj => ?_
       obtain ⟨_, rfl, ⟨_, _, rfl, ⟨co, ct, rfl, ko⟩, ⟨_, _, rfl, rfl, ⟨cp, cu, rfl, kq⟩⟩⟩⟩ := gu
       refine ⟨.one (.agg [.slice co x152.buses.length ct, .int .i64 x152.days, .slice cp x152.pits.length cu]), rfl, fun ls (jo : Kn 167 [(a, 0), (l, 0)] [(tA 152 [.slice co x152.buses.length ct, .int .i64 x152.days, .slice cp x152.pits.length cu]), (tA 151 (K13c4 aj ac al s ai ak)), (tI 12 x33.2.1)] ls) => hK _ _ ?_⟩
       obtain ⟨x153, ex153, H⟩ := bnd H
       refine wl fun K hK => ?_
       refine wc [.agg [.slice co x152.buses.length ct, .int .i64 x152.days, .slice cp x152.pits.length cu]] jo fj (pit_Best_ok n fj.has x152 ((rep_pair (rep_slice ko) (rep_pair rep_int (rep_slice kq))) : rep g5 x152 _) ex153) fun oe me ow gv bv bg => ?_
       replace ae := ae.mono (Heap.le_trans (Heap.le_trans (Heap.le_trans (Heap.le_trans ff c3) ce) bu) bv)
       replace af := af.mono (Heap.le_trans (Heap.le_trans (Heap.le_trans (Heap.le_trans ff c3) ce) bu) bv)
       replace cm := cm.mono (Heap.le_trans bu bv)
       replace ef := ef.mono (Heap.le_trans bu bv)
       replace cc := cc.mono (Heap.le_trans bu bv)
       replace cd := cd.mono (Heap.le_trans (Heap.le_trans ce bu) bv)
       obtain ⟨_, _, _, rfl, ⟨en, eo, rfl, ms⟩, rfl, rfl⟩ := gv
       refine ⟨.tup [.c (.slice en x153.1.length eo), .c (.int .i64 x153.2.1), .c (.int .i64 x153.2.2)], rfl, fun lu (jq : Kn 167 [(a, 0), (l, 0)] [(153, .tup [.c (.slice en x153.1.length eo), .c (.int .i64 x153.2.1), .c (.int .i64 x153.2.2)]), (tA 152 [.slice co x152.buses.length ct, .int .i64 x152.days, .slice cp x152.pits.length cu]), (tA 151 (K13c4 aj ac al s ai ak)), (tI 12 x33.2.1)] lu) => hK _ _ ?_⟩
       refine Rk 3 7 [(tI 20 x153.2.2), (tI 19 x153.2.1), (tI 12 x33.2.1)] jq bg fun nt jr => ?_
       refine wf (wp_seq (wp_region_from (Rk 0 3 [(tB 159 (x153.2.2 == 0)), (tI 19 x153.2.1), (tI 12 x33.2.1)] jr bg fun f1 e6 => ?_)))
       rcases Bool.eq_false_or_eq_true ((x153.2.2 == 0)) with b8 | b8
       ·
        rw [b8, cond_true] at H
        have js : Kn 167 [(a, 0), (l, 0)] [(tB 159 true), (tI 19 x153.2.1), (tI 12 x33.2.1)] f1 := (e6.setB 159 true (by rfl) b8).kp
        refine Rk 3 5 [(tB 164 (decide (x153.2.1 ≤ x33.2.1)))] js bg fun f2 e7 => ?_
        rcases Bool.eq_false_or_eq_true (decide (x153.2.1 ≤ x33.2.1)) with b9 | b9
        ·
         rw [b9, cond_true] at H
         have e8 : Kn 167 [(a, 0), (l, 0)] [(tB 164 true)] f2 := (e7.setB 164 true (by rfl) b9).kp
         obtain ⟨x165, ex165, H⟩ := bnd H
         refine wpFrom_loud _ rfl (wantedS_sound e8 (by kernel_rfl)) fun K hK => ?_
         refine wc [] e8 bg (law_wakes_ok n bg.has  ex165) fun og mf ox gw mi fk => ?_
         obtain rfl := gw
         refine ⟨.one (.c (.bool x165)), rfl, fun lv (ju : Kn 167 [(a, 0), (l, 0)] [(tB 165 x165), (tB 164 true)] lv) => hK _ _ ?_⟩
         refine Rk 9 2 [(tB 10 x165)] ju fk fun nv jv => ?_
         refine wf (wp_ret ?_)
         obtain rfl := Option.some.inj H
         exact rt (.one (.c (.bool x165))) jv fk rfl
        ·
         rw [b9, cond_false] at H
         have jw : Kn 167 [(a, 0), (l, 0)] [(tB 164 false)] f2 := (e7.setB 164 false (by rfl) b9).kp
         refine Rk 8 3 [(tB 10 false)] jw bg fun nw jx => ?_
         refine wf (wp_ret ?_)
         obtain rfl := Option.some.inj H
         exact rt (.one (.c (.bool false))) jx bg rfl
       ·
        rw [b8, cond_false] at H
        have jy : Kn 167 [(a, 0), (l, 0)] [(tB 159 false), (tI 19 x153.2.1), (tI 12 x33.2.1)] f1 := (e6.setB 159 false (by rfl) b8).kp
        refine Rk 3 8 [(tB 10 false)] jy bg fun nx jz => ?_
        refine wf (wp_ret ?_)
        obtain rfl := Option.some.inj H
        exact rt (.one (.c (.bool false))) jz bg rfl
end Go.Proofs.Ytkbphdjemgibnaa
