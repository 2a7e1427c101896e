/- Each call computes its plain function. -/
import Derived.Test.YtokchpjijlebiaaProg
import Derived.Test.YtokchpjijlebiaaPrP0
import Derived.Test.YtokchpjijlebiaaPrWA
import Derived.Test.YtokchpjijlebiaaPrWB
import Derived.Test.YtokchpjijlebiaaPrWC
import Derived.Test.YtokchpjijlebiaaPrWC1
import Derived.Test.YtokchpjijlebiaaPrWF
import Derived.Test.YtokchpjijlebiaaPrWZ
set_option linter.all false
namespace Go.Proofs.Ytokchpjijlebiaa
open Go Go.RowKit
open Rep (rep)
open KRep (kv)
open VRep (rv)
abbrev K8e1 (a d e f : Nat) : Env := [(a, 0), (d, 0), (e, 0), (f, 0)]
abbrev K8c2 : List SC := [.slice none 0 0, .slice none 0 0, .slice none 0 0]
abbrev K8e3 (a d e f : Nat) : Env := [(a, 0), (d, 0), (e, 0), (f, 0), (0, 0), (0, 0)]
abbrev K8e4 (a d e f an ao : Nat) : Env := [(a, 0), (d, 0), (e, 0), (f, 0), (an, 0), (ao, 0)]
abbrev K8c5 (au : Option Addr) (x59 : Acts) (a0 : Nat) (av : Option Addr) (a1 : Nat) (aw : Option Addr) (a2 : Nat) : List SC := [.slice au x59.holds.length a0, .slice av x59.turns.length a1, .slice aw x59.spares.length a2]
abbrev K8c6 (ax : Option Addr) (x57 : Acts) (a3 : Nat) (ay : Option Addr) (a4 : Nat) (az : Option Addr) (a5 : Nat) : List SC := [.slice ax x57.holds.length a3, .slice ay x57.turns.length a4, .slice az x57.spares.length a5]
abbrev K8c7 (bc : Option Addr) (x57 : Acts) (bf : Nat) (bd : Option Addr) (bg : Nat) (be : Option Addr) (bh : Nat) : List SC := [.slice bc x57.holds.length bf, .slice bd x57.turns.length bg, .slice be x57.spares.length bh]
abbrev K8c8 (bz : Option Addr) (x57 : Acts) (b8 : Nat) (b0 : Option Addr) (b9 : Nat) (b1 : Option Addr) (ca : Nat) : List SC := [.slice bz x57.holds.length b8, .slice b0 x57.turns.length b9, .slice b1 x57.spares.length ca]
abbrev K8c9 (q : Option Addr) (x32 : Acts × Int) (x : Nat) (s : Option Addr) (y : Nat) (u : Option Addr) (z : Nat) : List SC := [.slice q x32.1.holds.length x, .slice s x32.1.turns.length y, .slice u x32.1.spares.length z]
abbrev K8c10 (aa : Option Addr) (x38 : Acts × Int) (ad : Nat) (ab : Option Addr) (ae : Nat) (ac : Option Addr) (af : Nat) : List SC := [.slice aa x38.1.holds.length ad, .slice ab x38.1.turns.length ae, .slice ac x38.1.spares.length af]
abbrev K8c11 : List SC := [.slice none 0 0, .int .i64 0, .int .i64 0, .slice none 0 0, .slice none 0 0, .int .i64 0, .int .i64 0, .int .i64 0, .int .i64 0]
abbrev K8c12 (g : Option Addr) (r_ : Route) (l : Nat) (i : Option Addr) (m : Nat) (k : Option Addr) (p : Nat) : List SC := [.slice g r_.legs.length l, .int .i64 r_.turn.lo, .int .i64 r_.turn.hi, .slice i r_.buses.length m, .slice k r_.spares.length p, .int .i64 r_.unit, .int .i64 r_.gap, .int .i64 r_.fr, .int .i64 r_.to_]
abbrev K8c13 (du : Option Addr) (x31 : Route) (d9 : Nat) (dv : Option Addr) (ea : Nat) (dw : Option Addr) (eb : Nat) : List SC := [.slice du x31.legs.length d9, .int .i64 x31.turn.lo, .int .i64 x31.turn.hi, .slice dv x31.buses.length ea, .slice dw x31.spares.length eb, .int .i64 x31.unit, .int .i64 x31.gap, .int .i64 x31.fr, .int .i64 x31.to_]
abbrev K8c14 (dm : Option Addr) (x37 : Route) (d3 : Nat) (dp : Option Addr) (d4 : Nat) (dq : Option Addr) (d5 : Nat) : List SC := [.slice dm x37.legs.length d3, .int .i64 x37.turn.lo, .int .i64 x37.turn.hi, .slice dp x37.buses.length d4, .slice dq x37.spares.length d5, .int .i64 x37.unit, .int .i64 x37.gap, .int .i64 x37.fr, .int .i64 x37.to_]
abbrev K8c15 (g : Option Addr) (r_ : Route) (l : Nat) (i : Option Addr) (m : Nat) (k : Option Addr) (p : Nat) (more : IK .u8) : List SC := [.slice g r_.legs.length l, .int .i64 r_.turn.lo, .int .i64 r_.turn.hi, .slice i r_.buses.length m, .slice k r_.spares.length p, .int .i64 r_.unit, .int .i64 (if (IntKind.i64.wrap (r_.gap + (IntKind.i64.wrap more.n))) < 2000 then (IntKind.i64.wrap (r_.gap + (IntKind.i64.wrap more.n))) else 2000), .int .i64 r_.fr, .int .i64 r_.to_]
abbrev K8p16 (g : Option Addr) (r_ : Route) (l : Nat) (i : Option Addr) (m : Nat) (k : Option Addr) (p : Nat) (more : IK .u8) (q : Option Addr) (x32 : Acts × Int) (x : Nat) (s : Option Addr) (y : Nat) (u : Option Addr) (z : Nat) (aa : Option Addr) (x38 : Acts × Int) (ad : Nat) (ab : Option Addr) (ae : Nat) (ac : Option Addr) (af : Nat) : List Plc := [⟨(K8c12 g r_ l i m k p), some 28⟩, ⟨(K8c15 g r_ l i m k p more), some 28⟩, ⟨(K8c9 q x32 x s y u z), some 34⟩, ⟨(K8c10 aa x38 ad ab ae ac af), some 34⟩, ⟨[], some 50⟩, ⟨[], none⟩]
abbrev K8p17 (g : Option Addr) (r_ : Route) (l : Nat) (i : Option Addr) (m : Nat) (k : Option Addr) (p : Nat) (more : IK .u8) (q : Option Addr) (x32 : Acts × Int) (x : Nat) (s : Option Addr) (y : Nat) (u : Option Addr) (z : Nat) (aa : Option Addr) (x38 : Acts × Int) (ad : Nat) (ab : Option Addr) (ae : Nat) (ac : Option Addr) (af : Nat) : List Plc := [⟨(K8c12 g r_ l i m k p), some 28⟩, ⟨(K8c15 g r_ l i m k p more), some 28⟩, ⟨(K8c9 q x32 x s y u z), some 34⟩, ⟨(K8c10 aa x38 ad ab ae ac af), some 34⟩, ⟨K8c2, some 50⟩, ⟨[], none⟩]
abbrev K8p18 (g : Option Addr) (r_ : Route) (l : Nat) (i : Option Addr) (m : Nat) (k : Option Addr) (p : Nat) (more : IK .u8) (q : Option Addr) (x32 : Acts × Int) (x : Nat) (s : Option Addr) (y : Nat) (u : Option Addr) (z : Nat) (aa : Option Addr) (x38 : Acts × Int) (ad : Nat) (ab : Option Addr) (ae : Nat) (ac : Option Addr) (af : Nat) : List Plc := [⟨(K8c12 g r_ l i m k p), some 28⟩, ⟨(K8c15 g r_ l i m k p more), some 28⟩, ⟨(K8c9 q x32 x s y u z), some 34⟩, ⟨(K8c10 aa x38 ad ab ae ac af), some 34⟩, ⟨[], none⟩, ⟨K8c2, some 50⟩]
abbrev K8p19 (g : Option Addr) (r_ : Route) (l : Nat) (i : Option Addr) (m : Nat) (k : Option Addr) (p : Nat) (more : IK .u8) (q : Option Addr) (x32 : Acts × Int) (x : Nat) (s : Option Addr) (y : Nat) (u : Option Addr) (z : Nat) (aa : Option Addr) (x38 : Acts × Int) (ad : Nat) (ab : Option Addr) (ae : Nat) (ac : Option Addr) (af : Nat) : List Plc := [⟨(K8c12 g r_ l i m k p), some 28⟩, ⟨(K8c15 g r_ l i m k p more), some 28⟩, ⟨(K8c9 q x32 x s y u z), some 34⟩, ⟨(K8c10 aa x38 ad ab ae ac af), some 34⟩, ⟨[], some 50⟩, ⟨K8c2, some 50⟩]
abbrev K8p20 (g : Option Addr) (r_ : Route) (l : Nat) (i : Option Addr) (m : Nat) (k : Option Addr) (p : Nat) (more : IK .u8) (q : Option Addr) (x32 : Acts × Int) (x : Nat) (s : Option Addr) (y : Nat) (u : Option Addr) (z : Nat) (aa : Option Addr) (x38 : Acts × Int) (ad : Nat) (ab : Option Addr) (ae : Nat) (ac : Option Addr) (af : Nat) : List Plc := [⟨(K8c12 g r_ l i m k p), some 28⟩, ⟨(K8c15 g r_ l i m k p more), some 28⟩, ⟨(K8c9 q x32 x s y u z), some 34⟩, ⟨(K8c10 aa x38 ad ab ae ac af), some 34⟩, ⟨K8c2, some 50⟩, ⟨K8c2, some 50⟩]
abbrev K8m21 (q : Option Addr) (x32 : Acts × Int) (x : Nat) (s : Option Addr) (y : Nat) (u : Option Addr) (z : Nat) (x38 : Acts × Int) : TM := [(tA 56 (K8c9 q x32 x s y u z)), (tI 9 x38.2), (tP 8 3 0), (tP 2 0 0)]
set_option maxRecDepth 100000 in
set_option maxHeartbeats 4000000 in
theorem law_ControlPrinted_ok (n : Nat) {h : Heap} {w : World} (hh : Has h w) (r_ : Route) {cs_r_ : List Value} (hx_r_ : rep h r_ cs_r_) (more : IK .u8) {r : Bool} (H : law_ControlPrinted n r_ more = some r) :
  Calls Try.prog 8 #[.agg cs_r_.toArray, .int .u8 more.n] w (Ret (fun h v => v = .bool r) h w) := by
 obtain ⟨_, _, rfl, ⟨g, l, rfl, ag⟩, ⟨_, _, rfl, ⟨_, _, rfl, rfl, rfl⟩, ⟨_, _, rfl, ⟨i, m, rfl, ah⟩, ⟨_, _, rfl, ⟨k, p, rfl, ai⟩, ⟨_, _, rfl, rfl, ⟨_, _, rfl, rfl, ⟨_, _, rfl, rfl, rfl⟩⟩⟩⟩⟩⟩⟩ := hx_r_
 refine enter 88 [.agg (K8c12 g r_ l i m k p), .c (.int .u8 more.n)] Try.func8 rfl rfl rfl rfl fun t hk => ?_
 have hm := Mem.begin h w hh
 unfold law_ControlPrinted at H
 refine wp_seq (wp_region_from (wl fun K hK => ?_))
 refine wb (.agg (K8c12 g r_ l i m k p)) hk hm fun a tr vh (oo : Kn 88 [(a, 0)] [(tP 2 0 0), (tA 0 (K8c12 g r_ l i m k p)), (1, .one (.c (.int .u8 more.n)))] tr) (gu : Mem ⟨w, h, noX⟩ h [(a, 0)] [⟨(K8c12 g r_ l i m k p), some 28⟩] [] vh) => hK _ _ ?_
 refine Rk 1 1 [(tP 2 0 0), (1, .one (.c (.int .u8 more.n)))] oo gu fun w1 os => ?_
 refine wf (wp_seq (wp_seq ?_))
 obtain ⟨j5, ck, H⟩ := bnd H
 refine wp_mid' (fun a' w' => ∃ (j6 : Array Value) (dd : Heap), a' = ⟨j6, []⟩ ∧ Kn 88 [(a, 0)] [(tP 2 0 0), (1, .one (.c (.int .u8 more.n))), (tB 19 j5)] j6 ∧ Mem ⟨w, h, noX⟩ dd [(a, 0)] [⟨(K8c12 g r_ l i m k p), some 28⟩] [] w' ∧ Heap.le h dd) ?_ ?_
 ·
  refine wp_region_from (Rk 0 1 [(tA 12 (K8c12 g r_ l i m k p)), (tP 2 0 0), (1, .one (.c (.int .u8 more.n)))] os gu fun w6 o3 => ?_)
  obtain ⟨x13, ex13, ck⟩ := bnd ck
  refine wl fun K hK => ?_
  refine wc [.agg (K8c12 g r_ l i m k p)] o3 gu (law_Thin_ok n gu.has r_ ((rep_pair (rep_slice ag) (rep_pair (rep_pair rep_int rep_int) (rep_pair (rep_slice ah) (rep_pair (rep_slice ai) (rep_pair rep_int (rep_pair rep_int (rep_pair rep_int rep_int))))))) : rep h r_ _) ex13) fun xw od yo nq fy ef => ?_
  replace ag := ag.mono fy
  replace ah := ah.mono fy
  replace ai := ai.mono fy
  obtain rfl := nq
  refine ⟨.one (.c (.bool x13)), rfl, fun tz (pk : Kn 88 [(a, 0)] [(tB 13 x13), (tA 12 (K8c12 g r_ l i m k p)), (tP 2 0 0), (1, .one (.c (.int .u8 more.n)))] tz) => hK _ _ ?_⟩
  refine Rk 2 2 [(tB 15 (!x13)), (tP 2 0 0), (1, .one (.c (.int .u8 more.n)))] pk ef fun ng k3 => ?_
  rcases Bool.eq_false_or_eq_true ((!x13)) with fv | fv
  ·
   rw [fv, cond_true] at ck
   have pp : Kn 88 [(a, 0)] [(tB 15 true), (tP 2 0 0), (1, .one (.c (.int .u8 more.n)))] ng := (k3.setB 15 true (by rfl) fv).kp
   refine Rk 4 4 [(tB 19 true), (tP 2 0 0), (1, .one (.c (.int .u8 more.n)))] pp ef fun xf pw => ?_
   refine wf ?_
   obtain rfl := Option.some.inj ck
   exact Exists.intro _ ⟨_, rfl, pw.kp, ef, fy⟩
  ·
   rw [fv, cond_false] at ck
   have p3 : Kn 88 [(a, 0)] [(tB 15 false), (tP 2 0 0), (1, .one (.c (.int .u8 more.n)))] ng := (k3.setB 15 false (by rfl) fv).kp
   refine Rk 4 1 [(tA 16 (K8c12 g r_ l i m k p)), (tB 15 false), (tP 2 0 0), (1, .one (.c (.int .u8 more.n)))] p3 ef fun xm k8 => ?_
   obtain ⟨x17, ex17, ck⟩ := bnd ck
   refine wpFrom_loud _ rfl (wantedS_sound k8 (by kernel_rfl)) fun K hK => ?_
   refine wc [.agg (K8c12 g r_ l i m k p)] k8 ef (ref_Fault_ok n ef.has r_ ((rep_pair (rep_slice ag) (rep_pair (rep_pair rep_int rep_int) (rep_pair (rep_slice ah) (rep_pair (rep_slice ai) (rep_pair rep_int (rep_pair rep_int (rep_pair rep_int rep_int))))))) : rep od r_ _) ex17) fun x3 wi yx nx rq lu => ?_
   obtain rfl := nx
   refine ⟨.one (.c (.int .i64 x17)), rfl, fun t8 (qb : Kn 88 [(a, 0)] [(tI 17 x17), (tA 16 (K8c12 g r_ l i m k p)), (tB 15 false), (tP 2 0 0), (1, .one (.c (.int .u8 more.n)))] t8) => hK _ _ ?_⟩
   refine Rk 6 2 [(tB 19 (x17 != 0)), (tP 2 0 0), (1, .one (.c (.int .u8 more.n)))] qb lu fun xn qc => ?_
   refine wf ?_
   obtain rfl := Option.some.inj ck
   exact Exists.intro _ ⟨_, rfl, qc.kp, lu, (Heap.le_trans fy rq)⟩
 ·
  rintro _ y3 ⟨j6, dd, rfl, jb, gv, ji⟩
  replace ag := ag.mono ji
  replace ah := ah.mono ji
  replace ai := ai.mono ji
  refine wC (j5) jb (fun i9 => ?_) (fun i9 => ?_)
  ·
   rw [i9, cond_true] at H
   refine wp_seq (wp_region_from ?_)
   obtain ⟨x20, ex20, H⟩ := bnd H
   refine wl fun K hK => ?_
   refine wc [] jb gv (law_awake_ok n gv.has  ex20) fun x7 wn y7 n2 wx l2 => ?_
   obtain rfl := n2
   refine ⟨.one (.c (.bool x20)), rfl, fun ug (ql : Kn 88 [(a, 0)] [(tB 20 x20), (tP 2 0 0), (1, .one (.c (.int .u8 more.n))), (tB 19 j5)] ug) => hK _ _ ?_⟩
   refine Rk 1 1 [(tB 4 x20)] ql l2 fun xo qp => ?_
   refine wf (wp_ret ?_)
   obtain rfl := Option.some.inj H
   exact rt (.one (.c (.bool x20))) qp l2 rfl
  ·
   rw [i9, cond_false] at H
   refine wp_skip (wp_seq (wp_region_from (Rk 0 1 [(tA 21 (K8c12 g r_ l i m k p)), (tP 2 0 0), (1, .one (.c (.int .u8 more.n)))] jb gv fun xp qr => ?_)))
   refine wl fun K hK => ?_
   refine wa K8c11 qr gv fun d nj vw (qw : Kn 88 [(a, 0), (d, 0)] [(tP 5 1 0), (tA 21 (K8c12 g r_ l i m k p)), (tP 2 0 0), (1, .one (.c (.int .u8 more.n)))] nj) (r9 : Mem ⟨w, h, noX⟩ dd [(a, 0), (d, 0)] [⟨(K8c12 g r_ l i m k p), some 28⟩, ⟨K8c11, some 28⟩] [] vw) => hK _ _ ?_
   refine wl fun K hK => ?_
   refine wst 1 0 (.agg (K8c12 g r_ l i m k p)) (K8c12 g r_ l i m k p) qw r9 fun vy qz (mc : Mem ⟨w, h, noX⟩ dd [(a, 0), (d, 0)] [⟨(K8c12 g r_ l i m k p), some 28⟩, ⟨(K8c12 g r_ l i m k p), some 28⟩] [] vy) => hK _ _ ?_
   have q1 : Kn 88 [(a, 0), (d, 0)] [(tP 5 1 0), (tP 2 0 0), (1, .one (.c (.int .u8 more.n)))] nj := qz.kp
   refine wf (wp_seq (wp_region_from (Rk 0 7 [(tP 28 1 6), (tI 27 (if (IntKind.i64.wrap (r_.gap + (IntKind.i64.wrap more.n))) < 2000 then (IntKind.i64.wrap (r_.gap + (IntKind.i64.wrap more.n))) else 2000)), (tP 5 1 0), (tP 2 0 0)] q1 mc fun uw q3 => ?_)))
   refine wl fun K hK => ?_
   refine wst 1 6 (.c (.int .i64 (if (IntKind.i64.wrap (r_.gap + (IntKind.i64.wrap more.n))) < 2000 then (IntKind.i64.wrap (r_.gap + (IntKind.i64.wrap more.n))) else 2000))) (K8c15 g r_ l i m k p more) q3 mc fun v1 q6 (jt : Mem ⟨w, h, noX⟩ dd [(a, 0), (d, 0)] [⟨(K8c12 g r_ l i m k p), some 28⟩, ⟨(K8c15 g r_ l i m k p more), some 28⟩] [] v1) => hK _ _ ?_
   have ra : Kn 88 [(a, 0), (d, 0)] [(tP 5 1 0), (tP 2 0 0)] uw := q6.kp
   refine wf (wp_seq (wp_region_from (Rk 0 1 [(tA 30 (K8c12 g r_ l i m k p)), (tP 5 1 0), (tP 2 0 0)] ra jt fun xq rc => ?_)))
   obtain ⟨x31, ex31, H⟩ := bnd H
   refine wl fun K hK => ?_
   refine wc [.agg (K8c12 g r_ l i m k p)] rc jt (law_Route_ok n jt.has r_ ((rep_pair (rep_slice ag) (rep_pair (rep_pair rep_int rep_int) (rep_pair (rep_slice ah) (rep_pair (rep_slice ai) (rep_pair rep_int (rep_pair rep_int (rep_pair rep_int rep_int))))))) : rep dd r_ _) ex31) fun yf oh zn oa jk mo => ?_
   obtain ⟨_, rfl, ⟨_, _, rfl, ⟨du, d9, rfl, tn⟩, ⟨_, _, rfl, ⟨_, _, rfl, rfl, rfl⟩, ⟨_, _, rfl, ⟨dv, ea, rfl, tp⟩, ⟨_, _, rfl, ⟨dw, eb, rfl, tq⟩, ⟨_, _, rfl, rfl, ⟨_, _, rfl, rfl, ⟨_, _, rfl, rfl, rfl⟩⟩⟩⟩⟩⟩⟩⟩ := oa
   refine ⟨.one (.agg (K8c13 du x31 d9 dv ea dw eb)), rfl, fun vg (rl : Kn 88 [(a, 0), (d, 0)] [(tA 31 (K8c13 du x31 d9 dv ea dw eb)), (tA 30 (K8c12 g r_ l i m k p)), (tP 5 1 0), (tP 2 0 0)] vg) => hK _ _ ?_⟩
   obtain ⟨x32, ex32, H⟩ := bnd H
   refine wl fun K hK => ?_
   refine wc [.agg (K8c13 du x31 d9 dv ea dw eb)] rl mo (control_Best_ok n mo.has x31 ((rep_pair (rep_slice tn) (rep_pair (rep_pair rep_int rep_int) (rep_pair (rep_slice tp) (rep_pair (rep_slice tq) (rep_pair rep_int (rep_pair rep_int (rep_pair rep_int rep_int))))))) : rep oh x31 _) ex32) fun xr i6 yi nk jh lk => ?_
   replace ag := ag.mono (Heap.le_trans jk jh)
   replace ah := ah.mono (Heap.le_trans jk jh)
   replace ai := ai.mono (Heap.le_trans jk jh)
   obtain ⟨_, _, rfl, ⟨_, rfl, ⟨_, _, rfl, ⟨q, x, rfl, aj⟩, ⟨_, _, rfl, ⟨s, y, rfl, ak⟩, ⟨u, z, rfl, al⟩⟩⟩⟩, rfl⟩ := nk
   refine ⟨.tup [.agg (K8c9 q x32 x s y u z), .c (.int .i64 x32.2)], rfl, fun ts (oi : Kn 88 [(a, 0), (d, 0)] [(32, .tup [.agg (K8c9 q x32 x s y u z), .c (.int .i64 x32.2)]), (tA 31 (K8c13 du x31 d9 dv ea dw eb)), (tA 30 (K8c12 g r_ l i m k p)), (tP 5 1 0), (tP 2 0 0)] ts) => hK _ _ ?_⟩
   refine Rk 3 3 [(tI 34 x32.2), (tA 33 (K8c9 q x32 x s y u z)), (tP 5 1 0), (tP 2 0 0)] oi lk fun wy oj => ?_
   refine wl fun K hK => ?_
   refine wa K8c2 oj lk fun e tt vi (ok : Kn 88 [(a, 0), (d, 0), (e, 0)] [(tP 6 2 0), (tI 34 x32.2), (tA 33 (K8c9 q x32 x s y u z)), (tP 5 1 0), (tP 2 0 0)] tt) (r1 : Mem ⟨w, h, noX⟩ i6 [(a, 0), (d, 0), (e, 0)] [⟨(K8c12 g r_ l i m k p), some 28⟩, ⟨(K8c15 g r_ l i m k p more), some 28⟩, ⟨K8c2, some 34⟩] [] vi) => hK _ _ ?_
   refine wl fun K hK => ?_
   refine wst 2 0 (.agg (K8c9 q x32 x s y u z)) (K8c9 q x32 x s y u z) ok r1 fun vj ol (gs : Mem ⟨w, h, noX⟩ i6 [(a, 0), (d, 0), (e, 0)] [⟨(K8c12 g r_ l i m k p), some 28⟩, ⟨(K8c15 g r_ l i m k p more), some 28⟩, ⟨(K8c9 q x32 x s y u z), some 34⟩] [] vj) => hK _ _ ?_
   refine Rk 8 1 [(tI 7 x32.2), (tP 6 2 0), (tP 5 1 0), (tP 2 0 0)] ol gs fun wz om => ?_
   refine wf (wp_seq (wp_region_from (Rk 0 1 [(tA 36 (K8c15 g r_ l i m k p more)), (tI 7 x32.2), (tP 6 2 0), (tP 2 0 0)] om gs fun w0 op => ?_)))
   obtain ⟨x37, ex37, H⟩ := bnd H
   refine wl fun K hK => ?_
   refine wc [.agg (K8c15 g r_ l i m k p more)] op gs (law_Route_ok n gs.has (Route.mk r_.legs r_.turn r_.buses r_.spares r_.unit (if (IntKind.i64.wrap (r_.gap + (IntKind.i64.wrap more.n))) < 2000 then (IntKind.i64.wrap (r_.gap + (IntKind.i64.wrap more.n))) else 2000) r_.fr r_.to_) ((rep_pair (rep_slice ag) (rep_pair (rep_pair rep_int rep_int) (rep_pair (rep_slice ah) (rep_pair (rep_slice ai) (rep_pair rep_int (rep_pair rep_int (rep_pair rep_int rep_int))))))) : rep i6 (Route.mk r_.legs r_.turn r_.buses r_.spares r_.unit (if (IntKind.i64.wrap (r_.gap + (IntKind.i64.wrap more.n))) < 2000 then (IntKind.i64.wrap (r_.gap + (IntKind.i64.wrap more.n))) else 2000) r_.fr r_.to_) _) ex37) fun xs oc yj nl ed ll => ?_
   obtain ⟨_, rfl, ⟨_, _, rfl, ⟨dm, d3, rfl, sa⟩, ⟨_, _, rfl, ⟨_, _, rfl, rfl, rfl⟩, ⟨_, _, rfl, ⟨dp, d4, rfl, sb⟩, ⟨_, _, rfl, ⟨dq, d5, rfl, sc⟩, ⟨_, _, rfl, rfl, ⟨_, _, rfl, rfl, ⟨_, _, rfl, rfl, rfl⟩⟩⟩⟩⟩⟩⟩⟩ := nl
   refine ⟨.one (.agg (K8c14 dm x37 d3 dp d4 dq d5)), rfl, fun tu (oq : Kn 88 [(a, 0), (d, 0), (e, 0)] [(tA 37 (K8c14 dm x37 d3 dp d4 dq d5)), (tA 36 (K8c15 g r_ l i m k p more)), (tI 7 x32.2), (tP 6 2 0), (tP 2 0 0)] tu) => hK _ _ ?_⟩
   obtain ⟨x38, ex38, H⟩ := bnd H
   refine wl fun K hK => ?_
   refine wc [.agg (K8c14 dm x37 d3 dp d4 dq d5)] oq ll (control_Best_ok n ll.has x37 ((rep_pair (rep_slice sa) (rep_pair (rep_pair rep_int rep_int) (rep_pair (rep_slice sb) (rep_pair (rep_slice sc) (rep_pair rep_int (rep_pair rep_int (rep_pair rep_int rep_int))))))) : rep oc x37 _) ex38) fun xt am yk nm ee lm => ?_
   replace ag := ag.mono (Heap.le_trans ed ee)
   replace ah := ah.mono (Heap.le_trans ed ee)
   replace ai := ai.mono (Heap.le_trans ed ee)
   replace aj := aj.mono (Heap.le_trans ed ee)
   replace ak := ak.mono (Heap.le_trans ed ee)
   replace al := al.mono (Heap.le_trans ed ee)
   obtain ⟨_, _, rfl, ⟨_, rfl, ⟨_, _, rfl, ⟨aa, ad, rfl, ap⟩, ⟨_, _, rfl, ⟨ab, ae, rfl, aq⟩, ⟨ac, af, rfl, ar⟩⟩⟩⟩, rfl⟩ := nm
   refine ⟨.tup [.agg (K8c10 aa x38 ad ab ae ac af), .c (.int .i64 x38.2)], rfl, fun tv (ot : Kn 88 [(a, 0), (d, 0), (e, 0)] [(38, .tup [.agg (K8c10 aa x38 ad ab ae ac af), .c (.int .i64 x38.2)]), (tA 37 (K8c14 dm x37 d3 dp d4 dq d5)), (tA 36 (K8c15 g r_ l i m k p more)), (tI 7 x32.2), (tP 6 2 0), (tP 2 0 0)] tv) => hK _ _ ?_⟩
   refine Rk 3 3 [(tI 40 x38.2), (tA 39 (K8c10 aa x38 ad ab ae ac af)), (tI 7 x32.2), (tP 6 2 0), (tP 2 0 0)] ot lm fun w2 ou => ?_
   refine wl fun K hK => ?_
   refine wa K8c2 ou lm fun f tw vk (ov : Kn 88 (K8e1 a d e f) [(tP 8 3 0), (tI 40 x38.2), (tA 39 (K8c10 aa x38 ad ab ae ac af)), (tI 7 x32.2), (tP 6 2 0), (tP 2 0 0)] tw) (r2 : Mem ⟨w, h, noX⟩ am (K8e1 a d e f) [⟨(K8c12 g r_ l i m k p), some 28⟩, ⟨(K8c15 g r_ l i m k p more), some 28⟩, ⟨(K8c9 q x32 x s y u z), some 34⟩, ⟨K8c2, some 34⟩] [] vk) => hK _ _ ?_
   refine wl fun K hK => ?_
   refine wst 3 0 (.agg (K8c10 aa x38 ad ab ae ac af)) (K8c10 aa x38 ad ab ae ac af) ov r2 fun kl ow (a6 : Mem ⟨w, h, noX⟩ am (K8e1 a d e f) [⟨(K8c12 g r_ l i m k p), some 28⟩, ⟨(K8c15 g r_ l i m k p more), some 28⟩, ⟨(K8c9 q x32 x s y u z), some 34⟩, ⟨(K8c10 aa x38 ad ab ae ac af), some 34⟩] [] kl) => hK _ _ ?_
   refine Rk 8 1 [(tI 9 x38.2), (tP 8 3 0), (tI 7 x32.2), (tP 6 2 0), (tP 2 0 0)] ow a6 fun w3 ox => ?_
   refine wf (wp_seq (wp_seq (wp_region_from (Rk 0 2 [(tB 42 (x32.2 != 0)), (tI 9 x38.2), (tP 8 3 0), (tI 7 x32.2), (tP 6 2 0), (tP 2 0 0)] ox a6 fun w4 ja => ?_))))
   refine wf (wC ((x32.2 != 0)) ja (fun i8 => ?_) (fun i8 => ?_))
   ·
    rw [i8, cond_true] at H
    refine wp_seq ?_
    obtain ⟨m7, bi, H⟩ := bnd H
    refine wp_mid' (fun a' w' => ∃ (j7 : Array Value) (i7 : Heap), a' = ⟨j7, []⟩ ∧ Kn 88 (K8e1 a d e f) [(tB 4 m7)] j7 ∧ Mem ⟨w, h, noX⟩ i7 (K8e1 a d e f) [⟨(K8c12 g r_ l i m k p), some 28⟩, ⟨(K8c15 g r_ l i m k p more), some 28⟩, ⟨(K8c9 q x32 x s y u z), some 34⟩, ⟨(K8c10 aa x38 ad ab ae ac af), some 34⟩] [] w' ∧ Heap.le am i7) ?_ ?_
    ·
     refine wp_region_from (Rk 0 3 [(tB 45 (x32.2 == 9)), (tI 9 x38.2)] ja a6 fun m8 kr => ?_)
     rcases Bool.eq_false_or_eq_true ((x32.2 == 9)) with fo | fo
     ·
      rw [fo, cond_true] at bi
      have oy : Kn 88 (K8e1 a d e f) [(tB 45 true), (tI 9 x38.2)] m8 := (kr.setB 45 true (by rfl) fo).kp
      refine Rk 3 3 [(tB 48 (x38.2 == 0)), (tB 45 true), (tI 9 x38.2)] oy a6 fun m9 ks => ?_
      rcases Bool.eq_false_or_eq_true ((x38.2 == 0)) with fp | fp
      ·
       rw [fp, cond_true] at bi
       have oz : Kn 88 (K8e1 a d e f) [(tB 48 true), (tB 45 true), (tI 9 x38.2)] m9 := (ks.setB 48 true (by rfl) fp).kp
       refine Rk 6 5 [(tB 53 true)] oz a6 fun w5 kt => ?_
       obtain ⟨x54, ex54, bi⟩ := bnd bi
       refine wpFrom_loud _ rfl (wantedS_sound kt (by kernel_rfl)) fun K hK => ?_
       refine wc [] kt a6 (law_awake_ok n a6.has  ex54) fun xu wd yl nn rm ln => ?_
       obtain rfl := nn
       refine ⟨.one (.c (.bool x54)), rfl, fun tx (o0 : Kn 88 (K8e1 a d e f) [(tB 54 x54), (tB 53 true)] tx) => hK _ _ ?_⟩
       refine Rk 12 2 [(tB 4 x54)] o0 ln fun w7 o1 => ?_
       refine wf ?_
       obtain rfl := Option.some.inj bi
       exact Exists.intro _ ⟨_, rfl, o1.kp, ln, rm⟩
      ·
       rw [fp, cond_false] at bi
       have o2 : Kn 88 (K8e1 a d e f) [(tB 48 false), (tB 45 true), (tI 9 x38.2)] m9 := (ks.setB 48 false (by rfl) fp).kp
       refine Rk 6 5 [(tB 53 (x38.2 == 9))] o2 a6 fun na ku => ?_
       rcases Bool.eq_false_or_eq_true ((x38.2 == 9)) with fq | fq
       ·
        rw [fq, cond_true] at bi
        have kv : Kn 88 (K8e1 a d e f) [(tB 53 true)] na := (ku.setB 53 true (by rfl) fq).kp
        obtain ⟨x54, ex54, bi⟩ := bnd bi
        refine wpFrom_loud _ rfl (wantedS_sound kv (by kernel_rfl)) fun K hK => ?_
        refine wc [] kv a6 (law_awake_ok n a6.has  ex54) fun xv we ym np rn lp => ?_
        obtain rfl := np
        refine ⟨.one (.c (.bool x54)), rfl, fun ty (o4 : Kn 88 (K8e1 a d e f) [(tB 54 x54), (tB 53 true)] ty) => hK _ _ ?_⟩
        refine Rk 12 2 [(tB 4 x54)] o4 lp fun w8 o5 => ?_
        refine wf ?_
        obtain rfl := Option.some.inj bi
        exact Exists.intro _ ⟨_, rfl, o5.kp, lp, rn⟩
       ·
        rw [fq, cond_false] at bi
        have o6 : Kn 88 (K8e1 a d e f) [(tB 53 false)] na := (ku.setB 53 false (by rfl) fq).kp
        refine Rk 11 3 [(tB 4 false)] o6 a6 fun w9 o7 => ?_
        refine wf ?_
        obtain rfl := Option.some.inj bi
        exact Exists.intro _ ⟨_, rfl, o7.kp, a6, (Heap.le_refl _)⟩
     ·
      rw [fo, cond_false] at bi
      have o8 : Kn 88 (K8e1 a d e f) [(tB 45 false), (tI 9 x38.2)] m8 := (kr.setB 45 false (by rfl) fo).kp
      refine Rk 3 11 [(tB 4 false)] o8 a6 fun xa o9 => ?_
      refine wf ?_
      obtain rfl := Option.some.inj bi
      exact Exists.intro _ ⟨_, rfl, o9.kp, a6, (Heap.le_refl _)⟩
    ·
     rintro _ yn ⟨j7, i7, rfl, pa, r3, wv⟩
     refine wp_ret ?_
     obtain rfl := Option.some.inj H
     exact rt (.one (.c (.bool m7))) pa r3 rfl
   ·
    rw [i8, cond_false] at H
    refine wp_skip (wp_seq (wp_region_G (by kernel_rfl) ?_))
    replace a6 := a6.drew
    refine wpG_of_D [2] (K8e1 a d e f) [⟨(K8c12 g r_ l i m k p), some 28⟩, ⟨(K8c15 g r_ l i m k p more), some 28⟩, ⟨(K8c9 q x32 x s y u z), some 34⟩, ⟨(K8c10 aa x38 ad ab ae ac af), some 34⟩] ?_
    refine Dr [0] [0] (K8m21 q x32 x s y u z x38) ja a6 fun nb pb => ?_
    obtain ⟨x57, ex57, H⟩ := bnd H
    obtain ⟨x59, ex59, H⟩ := bnd H
    have pc : Kn 88 [(a, 0), (d, 0), (e, 0), (f, 0), (0, 0)] (K8m21 q x32 x s y u z x38) nb := pb.push (0, 0) (by kernel_rfl)
    have r4 : Mem ⟨w, h, noX⟩ am [(a, 0), (d, 0), (e, 0), (f, 0), (0, 0)] [⟨(K8c12 g r_ l i m k p), some 28⟩, ⟨(K8c15 g r_ l i m k p more), some 28⟩, ⟨(K8c9 q x32 x s y u z), some 34⟩, ⟨(K8c10 aa x38 ad ab ae ac af), some 34⟩, ⟨[], none⟩] [] (World.drew kl) := a6.addPlc (b := 0) (o := 0) (cs := []) (fun j c hj => by simp at hj) rfl (by kernel_rfl) (by kernel_rfl)
    refine D_ext (e' := [(a, 0), (d, 0), (e, 0), (f, 0), (0, 0)]) (pl' := [⟨(K8c12 g r_ l i m k p), some 28⟩, ⟨(K8c15 g r_ l i m k p more), some 28⟩, ⟨(K8c9 q x32 x s y u z), some 34⟩, ⟨(K8c10 aa x38 ad ab ae ac af), some 34⟩, ⟨[], none⟩]) (fun _ hp => hp.pop (Nat.le_of_eq rfl) (by kernel_rfl)) ?_
    have gm : Kn 88 (K8e3 a d e f) (K8m21 q x32 x s y u z x38) nb := pc.push (0, 0) (by kernel_rfl)
    have cd : Mem ⟨w, h, noX⟩ am (K8e3 a d e f) [⟨(K8c12 g r_ l i m k p), some 28⟩, ⟨(K8c15 g r_ l i m k p more), some 28⟩, ⟨(K8c9 q x32 x s y u z), some 34⟩, ⟨(K8c10 aa x38 ad ab ae ac af), some 34⟩, ⟨[], none⟩, ⟨[], none⟩] [] (World.drew kl) := r4.addPlc (b := 0) (o := 0) (cs := []) (fun j c hj => by simp at hj) rfl (by kernel_rfl) (by kernel_rfl)
    refine D_ext (e' := (K8e3 a d e f)) (pl' := [⟨(K8c12 g r_ l i m k p), some 28⟩, ⟨(K8c15 g r_ l i m k p more), some 28⟩, ⟨(K8c9 q x32 x s y u z), some 34⟩, ⟨(K8c10 aa x38 ad ab ae ac af), some 34⟩, ⟨[], none⟩, ⟨[], none⟩]) (fun _ hp => hp.pop (Nat.le_of_eq rfl) (by kernel_rfl)) ?_
    refine D_share (fun W => ∀ (an : Nat), ∀ (ao : Nat), ∀ (au : Option Addr), ∀ (a0 : Nat), ∀ (av : Option Addr), ∀ (a1 : Nat), ∀ (aw : Option Addr), ∀ (a2 : Nat), ∀ (ax : Option Addr), ∀ (a3 : Nat), ∀ (ay : Option Addr), ∀ (a4 : Nat), ∀ (az : Option Addr), ∀ (a5 : Nat), ∀ a' w', (∃ (g6 : Array Value) (bj : Heap), a' = ⟨g6, []⟩ ∧ Kn 88 (K8e4 a d e f an ao) [(tP 11 5 0), (tP 10 4 0), (tA 59 (K8c5 au x59 a0 av a1 aw a2)), (tA 57 (K8c6 ax x57 a3 ay a4 az a5)), (tI 9 x38.2), (tP 2 0 0)] g6 ∧ Mem ⟨w, h, noX⟩ bj (K8e4 a d e f an ao) (K8p20 g r_ l i m k p more q x32 x s y u z aa x38 ad ab ae ac af) [] w' ∧ Heap.le am bj ∧ RepS bj au a0 x59.holds ∧ RepS bj av a1 x59.turns ∧ RepS bj aw a2 x59.spares ∧ RepS bj ax a3 x57.holds ∧ RepS bj ay a4 x57.turns ∧ RepS bj az a5 x57.spares) → W (K8e4 a d e f an ao) (K8p19 g r_ l i m k p more q x32 x s y u z aa x38 ad ab ae ac af) [3, 1, 2, 4, 5, 0] a' w') ?_ (fun j0 => ?_)
    ·
     intro an ao au a0 av a1 aw a2 ax a3 ay a4 az a5
     rintro _ yp ⟨g6, bj, rfl, pd, r5, cf, bv, bw, bx, bl, bm, bn⟩
     replace ag := ag.mono cf
     replace ah := ah.mono cf
     replace ai := ai.mono cf
     replace aj := aj.mono cf
     replace ak := ak.mono cf
     replace al := al.mono cf
     replace ap := ap.mono cf
     replace aq := aq.mono cf
     replace ar := ar.mono cf
     refine D_sync 6 rfl (by kernel_rfl) (by decide) (rfl) (by kernel_rfl) fun K hK => ?_
     refine wst 4 0 (.agg (K8c6 ax x57 a3 ay a4 az a5)) (K8c6 ax x57 a3 ay a4 az a5) pd r5 fun vl pe (r6 : Mem ⟨w, h, noX⟩ bj (K8e4 a d e f an ao) [⟨(K8c12 g r_ l i m k p), some 28⟩, ⟨(K8c15 g r_ l i m k p more), some 28⟩, ⟨(K8c9 q x32 x s y u z), some 34⟩, ⟨(K8c10 aa x38 ad ab ae ac af), some 34⟩, ⟨(K8c6 ax x57 a3 ay a4 az a5), some 50⟩, ⟨K8c2, some 50⟩] [] vl) => hK _ _ ?_
     refine wpG_of_D [2] (K8e4 a d e f an ao) (K8p19 g r_ l i m k p more q x32 x s y u z aa x38 ad ab ae ac af) ?_
     refine D_sync 7 rfl (by kernel_rfl) (by decide) (rfl) (by kernel_rfl) fun K hK => ?_
     refine wst 5 0 (.agg (K8c5 au x59 a0 av a1 aw a2)) (K8c5 au x59 a0 av a1 aw a2) pe r6 fun vm pf (cn : Mem ⟨w, h, noX⟩ bj (K8e4 a d e f an ao) [⟨(K8c12 g r_ l i m k p), some 28⟩, ⟨(K8c15 g r_ l i m k p more), some 28⟩, ⟨(K8c9 q x32 x s y u z), some 34⟩, ⟨(K8c10 aa x38 ad ab ae ac af), some 34⟩, ⟨(K8c6 ax x57 a3 ay a4 az a5), some 50⟩, ⟨(K8c5 au x59 a0 av a1 aw a2), some 50⟩] [] vm) => hK _ _ ?_
     refine wpG_of_D [2] (K8e4 a d e f an ao) [⟨(K8c12 g r_ l i m k p), some 28⟩, ⟨(K8c15 g r_ l i m k p more), some 28⟩, ⟨(K8c9 q x32 x s y u z), some 34⟩, ⟨(K8c10 aa x38 ad ab ae ac af), some 34⟩, ⟨[], some 50⟩, ⟨(K8c5 au x59 a0 av a1 aw a2), some 50⟩] ?_
     have pg : Kn 88 (K8e4 a d e f an ao) [(tP 11 5 0), (tP 10 4 0), (tI 9 x38.2), (tP 2 0 0)] g6 := pf.kp
     refine wpD_end (by kernel_rfl) (wp_seq (wp_region_G (by kernel_rfl) ?_))
     replace cn := cn.drew
     refine wpG_of_D [] (K8e4 a d e f an ao) [⟨(K8c12 g r_ l i m k p), some 28⟩, ⟨(K8c15 g r_ l i m k p more), some 28⟩, ⟨(K8c9 q x32 x s y u z), some 34⟩, ⟨(K8c10 aa x38 ad ab ae ac af), some 34⟩, ⟨(K8c6 ax x57 a3 ay a4 az a5), some 50⟩, ⟨(K8c5 au x59 a0 av a1 aw a2), some 50⟩] ?_
     refine Dr [0, 1, 2] [2, 1, 0] [(tB 62 (x38.2 == 0)), (tP 11 5 0), (tP 10 4 0), (tP 2 0 0)] pg cn fun nc kw => ?_
     rcases Bool.eq_false_or_eq_true ((x38.2 == 0)) with fs | fs
     ·
      rw [fs, cond_true] at H
      have ph : Kn 88 (K8e4 a d e f an ao) [(tB 62 true), (tP 11 5 0), (tP 10 4 0), (tP 2 0 0)] nc := (kw.setB 62 true (by rfl) fs).kp
      refine Dr [3, 4] (dn 4) [(tA 64 (K8c6 ax x57 a3 ay a4 az a5)), (tA 63 (K8c12 g r_ l i m k p)), (tB 62 true), (tP 11 5 0), (tP 10 4 0), (tP 2 0 0)] ph cn fun xb kx => ?_
      obtain ⟨x65, ex65, H⟩ := bnd H
      refine D_loud 5 rfl (by kernel_rfl) (by decide) (wantedS_sound kx (by kernel_rfl)) fun K hK => ?_
      refine wc [.agg (K8c12 g r_ l i m k p), .agg (K8c6 ax x57 a3 ay a4 az a5)] kx cn (ref_AreActs_ok n cn.has r_ ((rep_pair (rep_slice ag) (rep_pair (rep_pair rep_int rep_int) (rep_pair (rep_slice ah) (rep_pair (rep_slice ai) (rep_pair rep_int (rep_pair rep_int (rep_pair rep_int rep_int))))))) : rep bj r_ _) x57 ((rep_pair (rep_slice bl) (rep_pair (rep_slice bm) (rep_slice bn))) : rep bj x57 _) ex65) fun xx km yq nr a7 dh => ?_
      replace ag := ag.mono a7
      replace ah := ah.mono a7
      replace ai := ai.mono a7
      replace aj := aj.mono a7
      replace ak := ak.mono a7
      replace al := al.mono a7
      replace ap := ap.mono a7
      replace aq := aq.mono a7
      replace ar := ar.mono a7
      replace bv := bv.mono a7
      replace bw := bw.mono a7
      replace bx := bx.mono a7
      replace bl := bl.mono a7
      replace bm := bm.mono a7
      replace bn := bn.mono a7
      obtain rfl := nr
      refine ⟨.one (.c (.bool x65)), rfl, fun t0 (pi : Kn 88 (K8e4 a d e f an ao) [(tB 65 x65), (tA 64 (K8c6 ax x57 a3 ay a4 az a5)), (tA 63 (K8c12 g r_ l i m k p)), (tB 62 true), (tP 11 5 0), (tP 10 4 0), (tP 2 0 0)] t0) => hK _ _ dh.plOk ?_⟩
      refine Dr [6, 7] (dn 7) [(tB 67 x65), (tP 11 5 0), (tP 10 4 0), (tP 2 0 0)] pi dh fun nd ky => ?_
      rcases Bool.eq_false_or_eq_true (x65) with ft | ft
      ·
       rw [ft, cond_true] at H
       have pj : Kn 88 (K8e4 a d e f an ao) [(tB 67 true), (tP 11 5 0), (tP 10 4 0), (tP 2 0 0)] nd := (ky.setB 67 true (by rfl) ft).kp
       refine Dr [8, 9] (dn 9) [(tA 69 (K8c5 au x59 a0 av a1 aw a2)), (tA 68 (K8c12 g r_ l i m k p)), (tB 67 true), (tP 11 5 0), (tP 10 4 0)] pj dh fun xc kz => ?_
       obtain ⟨x70, ex70, H⟩ := bnd H
       refine D_loud 10 rfl (by kernel_rfl) (by decide) (wantedS_sound kz (by kernel_rfl)) fun K hK => ?_
       refine wc [.agg (K8c12 g r_ l i m k p), .agg (K8c5 au x59 a0 av a1 aw a2)] kz dh (ref_AreActs_ok n dh.has r_ ((rep_pair (rep_slice ag) (rep_pair (rep_pair rep_int rep_int) (rep_pair (rep_slice ah) (rep_pair (rep_slice ai) (rep_pair rep_int (rep_pair rep_int (rep_pair rep_int rep_int))))))) : rep km r_ _) x59 ((rep_pair (rep_slice bv) (rep_pair (rep_slice bw) (rep_slice bx))) : rep km x59 _) ex70) fun xy oe yr ns a8 di => ?_
       replace ag := ag.mono a8
       replace ah := ah.mono a8
       replace ai := ai.mono a8
       replace aj := aj.mono a8
       replace ak := ak.mono a8
       replace al := al.mono a8
       replace ap := ap.mono a8
       replace aq := aq.mono a8
       replace ar := ar.mono a8
       replace bv := bv.mono a8
       replace bw := bw.mono a8
       replace bx := bx.mono a8
       replace bl := bl.mono a8
       replace bm := bm.mono a8
       replace bn := bn.mono a8
       obtain rfl := ns
       refine ⟨.one (.c (.bool x70)), rfl, fun t1 (pl : Kn 88 (K8e4 a d e f an ao) [(tB 70 x70), (tA 69 (K8c5 au x59 a0 av a1 aw a2)), (tA 68 (K8c12 g r_ l i m k p)), (tB 67 true), (tP 11 5 0), (tP 10 4 0)] t1) => hK _ _ di.plOk ?_⟩
       refine Dr [11, 12] (dn 12) [(tB 72 x70), (tP 11 5 0), (tP 10 4 0)] pl di fun nf k0 => ?_
       rcases Bool.eq_false_or_eq_true (x70) with fu | fu
       ·
        rw [fu, cond_true] at H
        have pm : Kn 88 (K8e4 a d e f an ao) [(tB 72 true), (tP 11 5 0), (tP 10 4 0)] nf := (k0.setB 72 true (by rfl) fu).kp
        refine Dr [13, 15] [15, 13, 12, 11, 10, 9, 8, 7, 6, 5, 4, 3, 2, 1, 0] [(tA 75 (K8c6 ax x57 a3 ay a4 az a5)), (tA 73 (K8c5 au x59 a0 av a1 aw a2)), (tB 72 true), (tP 11 5 0), (tP 10 4 0)] pm di fun xd k1 => ?_
        obtain ⟨x74, ex74, H⟩ := bnd H
        refine D_loud 14 rfl (by kernel_rfl) (by decide) (wantedS_sound k1 (by kernel_rfl)) fun K hK => ?_
        refine wc [.agg (K8c5 au x59 a0 av a1 aw a2)] k1 di (ref_Number_ok n di.has x59 ((rep_pair (rep_slice bv) (rep_pair (rep_slice bw) (rep_slice bx))) : rep oe x59 _) ex74) fun xz og ys nt a9 jl => ?_
        replace bl := bl.mono a9
        replace bm := bm.mono a9
        replace bn := bn.mono a9
        obtain rfl := nt
        refine ⟨.one (.c (.int .i64 x74)), rfl, fun t2 (k2 : Kn 88 (K8e4 a d e f an ao) [(tI 74 x74), (tA 75 (K8c6 ax x57 a3 ay a4 az a5)), (tA 73 (K8c5 au x59 a0 av a1 aw a2)), (tB 72 true), (tP 11 5 0), (tP 10 4 0)] t2) => hK _ _ jl.plOk ?_⟩
        obtain ⟨x76, ex76, H⟩ := bnd H
        refine D_loud 16 rfl (by kernel_rfl) (by decide) (wantedS_sound k2 (by kernel_rfl)) fun K hK => ?_
        refine wc [.agg (K8c6 ax x57 a3 ay a4 az a5)] k2 jl (ref_Number_ok n jl.has x57 ((rep_pair (rep_slice bl) (rep_pair (rep_slice bm) (rep_slice bn))) : rep og x57 _) ex76) fun x0 kn yt nu ba dj => ?_
        replace ag := ag.mono (Heap.le_trans a9 ba)
        replace ah := ah.mono (Heap.le_trans a9 ba)
        replace ai := ai.mono (Heap.le_trans a9 ba)
        replace aj := aj.mono (Heap.le_trans a9 ba)
        replace ak := ak.mono (Heap.le_trans a9 ba)
        replace al := al.mono (Heap.le_trans a9 ba)
        replace ap := ap.mono (Heap.le_trans a9 ba)
        replace aq := aq.mono (Heap.le_trans a9 ba)
        replace ar := ar.mono (Heap.le_trans a9 ba)
        replace bv := bv.mono (Heap.le_trans a9 ba)
        replace bw := bw.mono (Heap.le_trans a9 ba)
        replace bx := bx.mono (Heap.le_trans a9 ba)
        replace bl := bl.mono ba
        replace bm := bm.mono ba
        replace bn := bn.mono ba
        obtain rfl := nu
        refine ⟨.one (.c (.int .i64 x76)), rfl, fun t3 (pn : Kn 88 (K8e4 a d e f an ao) [(tI 76 x76), (tI 74 x74), (tA 75 (K8c6 ax x57 a3 ay a4 az a5)), (tA 73 (K8c5 au x59 a0 av a1 aw a2)), (tB 72 true), (tP 11 5 0), (tP 10 4 0)] t3) => hK _ _ dj.plOk ?_⟩
        refine Dr [17, 18, 19] [19, 18, 17, 16, 14, 15, 13, 12, 11, 10, 9, 8, 7, 6, 5, 4, 3, 2, 1, 0] [(tB 79 (decide (x74 ≤ x76))), (tP 11 5 0), (tP 10 4 0)] pn dj fun nh k4 => ?_
        rcases Bool.eq_false_or_eq_true (decide (x74 ≤ x76)) with fw | fw
        ·
         rw [fw, cond_true] at H
         have po : Kn 88 (K8e4 a d e f an ao) [(tB 79 true), (tP 11 5 0), (tP 10 4 0)] nh := (k4.setB 79 true (by rfl) fw).kp
         refine Dr [20, 21] [21, 20, 19, 18, 17, 16, 14, 15, 13, 12, 11, 10, 9, 8, 7, 6, 5, 4, 3, 2, 1, 0] [(tA 81 (K8c5 au x59 a0 av a1 aw a2)), (tA 80 (K8c6 ax x57 a3 ay a4 az a5)), (tB 79 true)] po dj fun xe k5 => ?_
         obtain ⟨x82, ex82, H⟩ := bnd H
         refine D_loud 22 rfl (by kernel_rfl) (by decide) (wantedS_sound k5 (by kernel_rfl)) fun K hK => ?_
         refine wc [.agg (K8c6 ax x57 a3 ay a4 az a5), .agg (K8c5 au x59 a0 av a1 aw a2)] k5 dj (ref_Better_ok n dj.has x57 ((rep_pair (rep_slice bl) (rep_pair (rep_slice bm) (rep_slice bn))) : rep kn x57 _) x59 ((rep_pair (rep_slice bv) (rep_pair (rep_slice bw) (rep_slice bx))) : rep kn x59 _) ex82) fun x1 wg yu nv bb eg => ?_
         replace ag := ag.mono bb
         replace ah := ah.mono bb
         replace ai := ai.mono bb
         replace aj := aj.mono bb
         replace ak := ak.mono bb
         replace al := al.mono bb
         replace ap := ap.mono bb
         replace aq := aq.mono bb
         replace ar := ar.mono bb
         replace bv := bv.mono bb
         replace bw := bw.mono bb
         replace bx := bx.mono bb
         replace bl := bl.mono bb
         replace bm := bm.mono bb
         replace bn := bn.mono bb
         obtain rfl := nv
         refine ⟨.one (.c (.bool x82)), rfl, fun t4 (pq : Kn 88 (K8e4 a d e f an ao) [(tB 82 x82), (tA 81 (K8c5 au x59 a0 av a1 aw a2)), (tA 80 (K8c6 ax x57 a3 ay a4 az a5)), (tB 79 true)] t4) => hK _ _ eg.plOk ?_⟩
         refine Dr [23, 24, 25] [25, 24, 23, 22, 21, 20, 19, 18, 17, 16, 14, 15, 13, 12, 11, 10, 9, 8, 7, 6, 5, 4, 3, 2, 1, 0] [(tB 85 (!x82))] pq eg fun ni k6 => ?_
         rcases Bool.eq_false_or_eq_true ((!x82)) with fx | fx
         ·
          rw [fx, cond_true] at H
          have k7 : Kn 88 (K8e4 a d e f an ao) [(tB 85 true)] ni := (k6.setB 85 true (by rfl) fx).kp
          obtain ⟨x86, ex86, H⟩ := bnd H
          refine D_loud 26 rfl (by kernel_rfl) (by decide) (wantedS_sound k7 (by kernel_rfl)) fun K hK => ?_
          refine wc [] k7 eg (law_awake_ok n eg.has  ex86) fun x2 wh yv nw ww jm => ?_
          obtain rfl := nw
          refine ⟨.one (.c (.bool x86)), rfl, fun t5 (pr : Kn 88 (K8e4 a d e f an ao) [(tB 86 x86), (tB 85 true)] t5) => hK _ _ jm.plOk ?_⟩
          refine Dr [27, 28] [28, 27, 26, 25, 24, 23, 22, 21, 20, 19, 18, 17, 16, 14, 15, 13, 12, 11, 10, 9, 8, 7, 6, 5, 4, 3, 2, 1, 0] [(tB 4 x86)] pr jm fun xg ps => ?_
          refine wpD_end (by kernel_rfl) (wp_ret ?_)
          obtain rfl := Option.some.inj H
          exact rt (.one (.c (.bool x86))) ps jm rfl
         ·
          rw [fx, cond_false] at H
          have pt : Kn 88 (K8e4 a d e f an ao) [(tB 85 false)] ni := (k6.setB 85 false (by rfl) fx).kp
          refine Dr [26, 27, 28] [28, 27, 26, 25, 24, 23, 22, 21, 20, 19, 18, 17, 16, 14, 15, 13, 12, 11, 10, 9, 8, 7, 6, 5, 4, 3, 2, 1, 0] [(tB 4 false)] pt eg fun xh pu => ?_
          refine wpD_end (by kernel_rfl) (wp_ret ?_)
          obtain rfl := Option.some.inj H
          exact rt (.one (.c (.bool false))) pu eg rfl
        ·
         rw [fw, cond_false] at H
         have pv : Kn 88 (K8e4 a d e f an ao) [(tB 79 false), (tP 11 5 0), (tP 10 4 0)] nh := (k4.setB 79 false (by rfl) fw).kp
         refine Dr [20, 21, 22, 23, 24, 25, 26, 27, 28] [28, 27, 26, 25, 24, 23, 22, 21, 20, 19, 18, 17, 16, 14, 15, 13, 12, 11, 10, 9, 8, 7, 6, 5, 4, 3, 2, 1, 0] [(tB 4 false)] pv dj fun xi px => ?_
         refine wpD_end (by kernel_rfl) (wp_ret ?_)
         obtain rfl := Option.some.inj H
         exact rt (.one (.c (.bool false))) px dj rfl
       ·
        rw [fu, cond_false] at H
        have py : Kn 88 (K8e4 a d e f an ao) [(tB 72 false), (tP 11 5 0), (tP 10 4 0)] nf := (k0.setB 72 false (by rfl) fu).kp
        refine Dr [13, 14, 15, 16, 17, 18, 19, 20, 21, 22, 23, 24, 25, 26, 27, 28] (dn 28) [(tB 4 false)] py di fun xj pz => ?_
        refine wpD_end (by kernel_rfl) (wp_ret ?_)
        obtain rfl := Option.some.inj H
        exact rt (.one (.c (.bool false))) pz di rfl
      ·
       rw [ft, cond_false] at H
       have p0 : Kn 88 (K8e4 a d e f an ao) [(tB 67 false), (tP 11 5 0), (tP 10 4 0), (tP 2 0 0)] nd := (ky.setB 67 false (by rfl) ft).kp
       refine Dr [8, 9, 10, 11, 12, 13, 14, 15, 16, 17, 18, 19, 20, 21, 22, 23, 24, 25, 26, 27, 28] (dn 28) [(tB 4 false)] p0 dh fun xk p1 => ?_
       refine wpD_end (by kernel_rfl) (wp_ret ?_)
       obtain rfl := Option.some.inj H
       exact rt (.one (.c (.bool false))) p1 dh rfl
     ·
      rw [fs, cond_false] at H
      have p2 : Kn 88 (K8e4 a d e f an ao) [(tB 62 false), (tP 11 5 0), (tP 10 4 0), (tP 2 0 0)] nc := (kw.setB 62 false (by rfl) fs).kp
      refine Dr [3, 4, 5, 6, 7, 8, 9, 10, 11, 12, 13, 14, 15, 16, 17, 18, 19, 20, 21, 22, 23, 24, 25, 26, 27, 28] (dn 28) [(tB 4 false)] p2 cn fun xl p4 => ?_
      refine wpD_end (by kernel_rfl) (wp_ret ?_)
      obtain rfl := Option.some.inj H
      exact rt (.one (.c (.bool false))) p4 cn rfl
    refine D_share (fun W => ∀ (cg : Nat), ∀ (el : Option Addr), ∀ (e4 : Nat), ∀ (em : Option Addr), ∀ (e5 : Nat), ∀ (en : Option Addr), ∀ (e6 : Nat), ∀ (eo : Option Addr), ∀ (e7 : Nat), ∀ (ep : Option Addr), ∀ (e8 : Nat), ∀ (er : Option Addr), ∀ (e9 : Nat), ∀ a' w', (∃ (j8 : Array Value) (cb : Heap), a' = ⟨j8, []⟩ ∧ Kn 88 [(a, 0), (d, 0), (e, 0), (f, 0), (cg, 0), (0, 0)] [(tP 10 4 0), (tA 59 [.slice el x59.holds.length e4, .slice em x59.turns.length e5, .slice en x59.spares.length e6]), (tA 57 [.slice eo x57.holds.length e7, .slice ep x57.turns.length e8, .slice er x57.spares.length e9]), (tI 9 x38.2), (tP 2 0 0)] j8 ∧ Mem ⟨w, h, noX⟩ cb [(a, 0), (d, 0), (e, 0), (f, 0), (cg, 0), (0, 0)] (K8p17 g r_ l i m k p more q x32 x s y u z aa x38 ad ab ae ac af) [] w' ∧ Heap.le am cb ∧ RepS cb el e4 x59.holds ∧ RepS cb em e5 x59.turns ∧ RepS cb en e6 x59.spares ∧ RepS cb eo e7 x57.holds ∧ RepS cb ep e8 x57.turns ∧ RepS cb er e9 x57.spares) → W [(a, 0), (d, 0), (e, 0), (f, 0), (cg, 0), (0, 0)] (K8p16 g r_ l i m k p more q x32 x s y u z aa x38 ad ab ae ac af) [3, 1, 2, 4, 0] a' w') ?_ (fun mz => ?_)
    ·
     intro cg el e4 em e5 en e6 eo e7 ep e8 er e9
     rintro _ yw ⟨j8, cb, rfl, p5, r7, ro, sd, se, sf, sg, sh, si⟩
     refine Dl 5 fun K hK => ?_
     refine waA 5 K8c2 p5 r7 fun f1 t6 vn (p6 : Kn 88 [(a, 0), (d, 0), (e, 0), (f, 0), (cg, 0), (f1, 0)] [(tP 11 5 0), (tP 10 4 0), (tA 59 [.slice el x59.holds.length e4, .slice em x59.turns.length e5, .slice en x59.spares.length e6]), (tA 57 [.slice eo x57.holds.length e7, .slice ep x57.turns.length e8, .slice er x57.spares.length e9]), (tI 9 x38.2), (tP 2 0 0)] t6) (lq : Mem ⟨w, h, noX⟩ cb [(a, 0), (d, 0), (e, 0), (f, 0), (cg, 0), (f1, 0)] (K8p20 g r_ l i m k p more q x32 x s y u z aa x38 ad ab ae ac af) [] vn) => hK _ _ (PlOk.unset 5 rfl (by kernel_rfl) (PlOk.forget [4] lq.plOk)) (D_ext (e' := [(a, 0), (d, 0), (e, 0), (f, 0), (cg, 0), (f1, 0)]) (pl' := (K8p19 g r_ l i m k p more q x32 x s y u z aa x38 ad ab ae ac af)) (fun _ hp => hp.unset 5 rfl (by kernel_rfl)) ?_)
     refine D_perm [3, 1, 2, 4, 5, 0] (by kernel_rfl) (by rfl) (j0 cg f1 el e4 em e5 en e6 eo e7 ep e8 er e9 _ _ ?_)
     exact Exists.intro _ ⟨_, rfl, p6.kp, lq, ro, sd, se, sf, sg, sh, si⟩
    refine D_share (fun W => ∀ (ch : Nat), ∀ (es : Option Addr), ∀ (fa : Nat), ∀ (et : Option Addr), ∀ (fb : Nat), ∀ (eu : Option Addr), ∀ (fc : Nat), ∀ (ev : Option Addr), ∀ (fd : Nat), ∀ (ew : Option Addr), ∀ (fe : Nat), ∀ (ex : Option Addr), ∀ (ff : Nat), ∀ a' w', (∃ (j9 : Array Value) (cc : Heap), a' = ⟨j9, []⟩ ∧ Kn 88 [(a, 0), (d, 0), (e, 0), (f, 0), (0, 0), (ch, 0)] [(tP 11 5 0), (tA 59 [.slice es x59.holds.length fa, .slice et x59.turns.length fb, .slice eu x59.spares.length fc]), (tA 57 [.slice ev x57.holds.length fd, .slice ew x57.turns.length fe, .slice ex x57.spares.length ff]), (tI 9 x38.2), (tP 2 0 0)] j9 ∧ Mem ⟨w, h, noX⟩ cc [(a, 0), (d, 0), (e, 0), (f, 0), (0, 0), (ch, 0)] (K8p18 g r_ l i m k p more q x32 x s y u z aa x38 ad ab ae ac af) [] w' ∧ Heap.le am cc ∧ RepS cc es fa x59.holds ∧ RepS cc et fb x59.turns ∧ RepS cc eu fc x59.spares ∧ RepS cc ev fd x57.holds ∧ RepS cc ew fe x57.turns ∧ RepS cc ex ff x57.spares) → W [(a, 0), (d, 0), (e, 0), (f, 0), (0, 0), (ch, 0)] (K8p18 g r_ l i m k p more q x32 x s y u z aa x38 ad ab ae ac af) [3, 1, 2, 5, 0] a' w') ?_ (fun m0 => ?_)
    ·
     intro ch es fa et fb eu fc ev fd ew fe ex ff
     rintro _ yy ⟨j9, cc, rfl, p7, r8, rp, sj, sk, sl, sm, sn, sp⟩
     refine Dl 4 fun K hK => ?_
     refine waA 4 K8c2 p7 r8 fun f2 t7 vo (p8 : Kn 88 [(a, 0), (d, 0), (e, 0), (f, 0), (f2, 0), (ch, 0)] [(tP 10 4 0), (tP 11 5 0), (tA 59 [.slice es x59.holds.length fa, .slice et x59.turns.length fb, .slice eu x59.spares.length fc]), (tA 57 [.slice ev x57.holds.length fd, .slice ew x57.turns.length fe, .slice ex x57.spares.length ff]), (tI 9 x38.2), (tP 2 0 0)] t7) (lr : Mem ⟨w, h, noX⟩ cc [(a, 0), (d, 0), (e, 0), (f, 0), (f2, 0), (ch, 0)] (K8p20 g r_ l i m k p more q x32 x s y u z aa x38 ad ab ae ac af) [] vo) => hK _ _ (PlOk.unset 4 rfl (by kernel_rfl) (PlOk.forget [4] lr.plOk)) (D_ext (e' := [(a, 0), (d, 0), (e, 0), (f, 0), (f2, 0), (ch, 0)]) (pl' := (K8p19 g r_ l i m k p more q x32 x s y u z aa x38 ad ab ae ac af)) (fun _ hp => hp.unset 4 rfl (by kernel_rfl)) ?_)
     refine D_perm [3, 1, 2, 4, 5, 0] (by kernel_rfl) (by rfl) (j0 f2 ch es fa et fb eu fc ev fd ew fe ex ff _ _ ?_)
     exact Exists.intro _ ⟨_, rfl, p8.kp, lr, rp, sj, sk, sl, sm, sn, sp⟩
    refine D_share (fun W => ∀ (dx : Nat), ∀ (dy : Nat), ∀ (ey : Option Addr), ∀ (fg : Nat), ∀ (ez : Option Addr), ∀ (fh : Nat), ∀ (e0 : Option Addr), ∀ (fi : Nat), ∀ a' w', (∃ (ka : Array Value) (de : Heap), a' = ⟨ka, []⟩ ∧ Kn 88 [(a, 0), (d, 0), (e, 0), (f, 0), (dx, 0), (dy, 0)] [(tP 11 5 0), (tP 10 4 0), (tA 58 (K8c10 aa x38 ad ab ae ac af)), (tA 57 [.slice ey x57.holds.length fg, .slice ez x57.turns.length fh, .slice e0 x57.spares.length fi]), (tI 9 x38.2), (tP 2 0 0)] ka ∧ Mem ⟨w, h, noX⟩ de [(a, 0), (d, 0), (e, 0), (f, 0), (dx, 0), (dy, 0)] (K8p20 g r_ l i m k p more q x32 x s y u z aa x38 ad ab ae ac af) [] w' ∧ Heap.le am de ∧ RepS de ey fg x57.holds ∧ RepS de ez fh x57.turns ∧ RepS de e0 fi x57.spares) → W [(a, 0), (d, 0), (e, 0), (f, 0), (dx, 0), (dy, 0)] (K8p19 g r_ l i m k p more q x32 x s y u z aa x38 ad ab ae ac af) [1, 2, 4, 5, 0] a' w') ?_ (fun g5 => ?_)
    ·
     intro dx dy ey fg ez fh e0 fi
     rintro _ yz ⟨ka, de, rfl, p9, ls, gn, ju, jv, jw⟩
     replace ap := ap.mono gn
     replace aq := aq.mono gn
     replace ar := ar.mono gn
     refine Dl 3 fun K hK => ?_
     refine wc [.agg (K8c10 aa x38 ad ab ae ac af)] p9 ls (law_Back_ok n ls.has (Acts.mk x38.1.holds x38.1.turns x38.1.spares) ((rep_pair (rep_slice ap) (rep_pair (rep_slice aq) (rep_slice ar))) : rep de (Acts.mk x38.1.holds x38.1.turns x38.1.spares) _) ex59) fun x4 wj y0 ny go lv => ?_
     replace ju := ju.mono go
     replace jv := jv.mono go
     replace jw := jw.mono go
     obtain ⟨_, rfl, ⟨_, _, rfl, ⟨g7, h7, rfl, sq⟩, ⟨_, _, rfl, ⟨g8, h8, rfl, sr⟩, ⟨g9, h9, rfl, ss⟩⟩⟩⟩ := ny
     refine ⟨.one (.agg [.slice g7 x59.holds.length h7, .slice g8 x59.turns.length h8, .slice g9 x59.spares.length h9]), rfl, fun t9 (qa : Kn 88 [(a, 0), (d, 0), (e, 0), (f, 0), (dx, 0), (dy, 0)] [(tA 59 [.slice g7 x59.holds.length h7, .slice g8 x59.turns.length h8, .slice g9 x59.spares.length h9]), (tP 11 5 0), (tP 10 4 0), (tA 58 (K8c10 aa x38 ad ab ae ac af)), (tA 57 [.slice ey x57.holds.length fg, .slice ez x57.turns.length fh, .slice e0 x57.spares.length fi]), (tI 9 x38.2), (tP 2 0 0)] t9) => hK _ _ (PlOk.forget [4] lv.plOk) ?_⟩
     refine D_perm [3, 1, 2, 4, 5, 0] (by kernel_rfl) (by rfl) (j0 dx dy g7 h7 g8 h8 g9 h9 ey fg ez fh e0 fi _ _ ?_)
     exact Exists.intro _ ⟨_, rfl, qa.kp, lv, (Heap.le_trans gn go), sq, sr, ss, ju, jv, jw⟩
    refine D_share (fun W => ∀ (b2 : Nat), ∀ (co : Option Addr), ∀ (c1 : Nat), ∀ (cp : Option Addr), ∀ (c2 : Nat), ∀ (cq : Option Addr), ∀ (c3 : Nat), ∀ a' w', (∃ (kb : Array Value) (cl : Heap), a' = ⟨kb, []⟩ ∧ Kn 88 [(a, 0), (d, 0), (e, 0), (f, 0), (b2, 0), (0, 0)] [(tP 10 4 0), (tA 58 (K8c10 aa x38 ad ab ae ac af)), (tA 57 [.slice co x57.holds.length c1, .slice cp x57.turns.length c2, .slice cq x57.spares.length c3]), (tI 9 x38.2), (tP 2 0 0)] kb ∧ Mem ⟨w, h, noX⟩ cl [(a, 0), (d, 0), (e, 0), (f, 0), (b2, 0), (0, 0)] (K8p17 g r_ l i m k p more q x32 x s y u z aa x38 ad ab ae ac af) [] w' ∧ Heap.le am cl ∧ RepS cl co c1 x57.holds ∧ RepS cl cp c2 x57.turns ∧ RepS cl cq c3 x57.spares) → W [(a, 0), (d, 0), (e, 0), (f, 0), (b2, 0), (0, 0)] (K8p16 g r_ l i m k p more q x32 x s y u z aa x38 ad ab ae ac af) [1, 2, 4, 0] a' w') ?_ (fun j1 => ?_)
    ·
     intro b2 co c1 cp c2 cq c3
     rintro _ y1 ⟨kb, cl, rfl, k9, jn, bq, gz, g0, g1⟩
     replace ag := ag.mono bq
     replace ah := ah.mono bq
     replace ai := ai.mono bq
     replace aj := aj.mono bq
     replace ak := ak.mono bq
     replace al := al.mono bq
     replace ap := ap.mono bq
     replace aq := aq.mono bq
     replace ar := ar.mono bq
     refine D_two 3 5 rfl rfl (by kernel_rfl) (by decide) (rfl) (rfl) (fun K hK => ?_) (fun K hK => ?_)
     ·
      refine wc [.agg (K8c10 aa x38 ad ab ae ac af)] k9 jn (law_Back_ok n jn.has (Acts.mk x38.1.holds x38.1.turns x38.1.spares) ((rep_pair (rep_slice ap) (rep_pair (rep_slice aq) (rep_slice ar))) : rep cl (Acts.mk x38.1.holds x38.1.turns x38.1.spares) _) ex59) fun x5 wk y2 nz gp lw => ?_
      replace gz := gz.mono gp
      replace g0 := g0.mono gp
      replace g1 := g1.mono gp
      obtain ⟨_, rfl, ⟨_, _, rfl, ⟨ha, ia, rfl, st⟩, ⟨_, _, rfl, ⟨hb, ib, rfl, su⟩, ⟨hc, ic, rfl, sv⟩⟩⟩⟩ := nz
      refine ⟨.one (.agg [.slice ha x59.holds.length ia, .slice hb x59.turns.length ib, .slice hc x59.spares.length ic]), rfl, fun ua (qd : Kn 88 [(a, 0), (d, 0), (e, 0), (f, 0), (b2, 0), (0, 0)] [(tA 59 [.slice ha x59.holds.length ia, .slice hb x59.turns.length ib, .slice hc x59.spares.length ic]), (tP 10 4 0), (tA 58 (K8c10 aa x38 ad ab ae ac af)), (tA 57 [.slice co x57.holds.length c1, .slice cp x57.turns.length c2, .slice cq x57.spares.length c3]), (tI 9 x38.2), (tP 2 0 0)] ua) => hK _ _ (PlOk.forget [4] lw.plOk) ?_⟩
      refine D_perm [3, 1, 2, 4, 0] (by kernel_rfl) (by rfl) (mz b2 ha ia hb ib hc ic co c1 cp c2 cq c3 _ _ ?_)
      exact Exists.intro _ ⟨_, rfl, qd.kp, lw, (Heap.le_trans bq gp), st, su, sv, gz, g0, g1⟩
     ·
      refine waA 5 K8c2 k9 jn fun f3 ub vp (qe : Kn 88 [(a, 0), (d, 0), (e, 0), (f, 0), (b2, 0), (f3, 0)] [(tP 11 5 0), (tP 10 4 0), (tA 58 (K8c10 aa x38 ad ab ae ac af)), (tA 57 [.slice co x57.holds.length c1, .slice cp x57.turns.length c2, .slice cq x57.spares.length c3]), (tI 9 x38.2), (tP 2 0 0)] ub) (lx : Mem ⟨w, h, noX⟩ cl [(a, 0), (d, 0), (e, 0), (f, 0), (b2, 0), (f3, 0)] (K8p20 g r_ l i m k p more q x32 x s y u z aa x38 ad ab ae ac af) [] vp) => hK _ _ (PlOk.unset 5 rfl (by kernel_rfl) (PlOk.forget [4] lx.plOk)) (D_ext (e' := [(a, 0), (d, 0), (e, 0), (f, 0), (b2, 0), (f3, 0)]) (pl' := (K8p19 g r_ l i m k p more q x32 x s y u z aa x38 ad ab ae ac af)) (fun _ hp => hp.unset 5 rfl (by kernel_rfl)) ?_)
      refine D_perm [1, 2, 4, 5, 0] (by kernel_rfl) (by rfl) (g5 b2 f3 co c1 cp c2 cq c3 _ _ ?_)
      exact Exists.intro _ ⟨_, rfl, qe.kp, lx, bq, gz, g0, g1⟩
    refine D_share (fun W => ∀ (b3 : Nat), ∀ (cr : Option Addr), ∀ (c4 : Nat), ∀ (ct : Option Addr), ∀ (c5 : Nat), ∀ (cu : Option Addr), ∀ (c6 : Nat), ∀ a' w', (∃ (kc : Array Value) (cm : Heap), a' = ⟨kc, []⟩ ∧ Kn 88 [(a, 0), (d, 0), (e, 0), (f, 0), (0, 0), (b3, 0)] [(tP 11 5 0), (tA 58 (K8c10 aa x38 ad ab ae ac af)), (tA 57 [.slice cr x57.holds.length c4, .slice ct x57.turns.length c5, .slice cu x57.spares.length c6]), (tI 9 x38.2), (tP 2 0 0)] kc ∧ Mem ⟨w, h, noX⟩ cm [(a, 0), (d, 0), (e, 0), (f, 0), (0, 0), (b3, 0)] (K8p18 g r_ l i m k p more q x32 x s y u z aa x38 ad ab ae ac af) [] w' ∧ Heap.le am cm ∧ RepS cm cr c4 x57.holds ∧ RepS cm ct c5 x57.turns ∧ RepS cm cu c6 x57.spares) → W [(a, 0), (d, 0), (e, 0), (f, 0), (0, 0), (b3, 0)] (K8p18 g r_ l i m k p more q x32 x s y u z aa x38 ad ab ae ac af) [1, 2, 5, 0] a' w') ?_ (fun j2 => ?_)
    ·
     intro b3 cr c4 ct c5 cu c6
     rintro _ y4 ⟨kc, cm, rfl, la, jo, br, g2, g3, g4⟩
     replace ag := ag.mono br
     replace ah := ah.mono br
     replace ai := ai.mono br
     replace aj := aj.mono br
     replace ak := ak.mono br
     replace al := al.mono br
     replace ap := ap.mono br
     replace aq := aq.mono br
     replace ar := ar.mono br
     refine D_two 3 4 rfl rfl (by kernel_rfl) (by decide) (rfl) (rfl) (fun K hK => ?_) (fun K hK => ?_)
     ·
      refine wc [.agg (K8c10 aa x38 ad ab ae ac af)] la jo (law_Back_ok n jo.has (Acts.mk x38.1.holds x38.1.turns x38.1.spares) ((rep_pair (rep_slice ap) (rep_pair (rep_slice aq) (rep_slice ar))) : rep cm (Acts.mk x38.1.holds x38.1.turns x38.1.spares) _) ex59) fun x6 wm y5 n0 gq ly => ?_
      replace g2 := g2.mono gq
      replace g3 := g3.mono gq
      replace g4 := g4.mono gq
      obtain ⟨_, rfl, ⟨_, _, rfl, ⟨hd, ie, rfl, sw⟩, ⟨_, _, rfl, ⟨he, ig, rfl, sx⟩, ⟨hf, ih, rfl, sy⟩⟩⟩⟩ := n0
      refine ⟨.one (.agg [.slice hd x59.holds.length ie, .slice he x59.turns.length ig, .slice hf x59.spares.length ih]), rfl, fun uc (qf : Kn 88 [(a, 0), (d, 0), (e, 0), (f, 0), (0, 0), (b3, 0)] [(tA 59 [.slice hd x59.holds.length ie, .slice he x59.turns.length ig, .slice hf x59.spares.length ih]), (tP 11 5 0), (tA 58 (K8c10 aa x38 ad ab ae ac af)), (tA 57 [.slice cr x57.holds.length c4, .slice ct x57.turns.length c5, .slice cu x57.spares.length c6]), (tI 9 x38.2), (tP 2 0 0)] uc) => hK _ _ ly.plOk ?_⟩
      refine D_perm [3, 1, 2, 5, 0] (by kernel_rfl) (by rfl) (m0 b3 hd ie he ig hf ih cr c4 ct c5 cu c6 _ _ ?_)
      exact Exists.intro _ ⟨_, rfl, qf.kp, ly, (Heap.le_trans br gq), sw, sx, sy, g2, g3, g4⟩
     ·
      refine waA 4 K8c2 la jo fun f4 ud vq (qg : Kn 88 [(a, 0), (d, 0), (e, 0), (f, 0), (f4, 0), (b3, 0)] [(tP 10 4 0), (tP 11 5 0), (tA 58 (K8c10 aa x38 ad ab ae ac af)), (tA 57 [.slice cr x57.holds.length c4, .slice ct x57.turns.length c5, .slice cu x57.spares.length c6]), (tI 9 x38.2), (tP 2 0 0)] ud) (lz : Mem ⟨w, h, noX⟩ cm [(a, 0), (d, 0), (e, 0), (f, 0), (f4, 0), (b3, 0)] (K8p20 g r_ l i m k p more q x32 x s y u z aa x38 ad ab ae ac af) [] vq) => hK _ _ (PlOk.unset 4 rfl (by kernel_rfl) (PlOk.forget [4] lz.plOk)) (D_ext (e' := [(a, 0), (d, 0), (e, 0), (f, 0), (f4, 0), (b3, 0)]) (pl' := (K8p19 g r_ l i m k p more q x32 x s y u z aa x38 ad ab ae ac af)) (fun _ hp => hp.unset 4 rfl (by kernel_rfl)) ?_)
      refine D_perm [1, 2, 4, 5, 0] (by kernel_rfl) (by rfl) (g5 f4 b3 cr c4 ct c5 cu c6 _ _ ?_)
      exact Exists.intro _ ⟨_, rfl, qg.kp, lz, br, g2, g3, g4⟩
    refine D_share (fun W => ∀ (dz : Nat), ∀ (d0 : Nat), ∀ (e1 : Option Addr), ∀ (fj : Nat), ∀ (e2 : Option Addr), ∀ (fk : Nat), ∀ (e3 : Option Addr), ∀ (fl : Nat), ∀ a' w', (∃ (kd : Array Value) (ec : Heap), a' = ⟨kd, []⟩ ∧ Kn 88 [(a, 0), (d, 0), (e, 0), (f, 0), (dz, 0), (d0, 0)] [(tP 11 5 0), (tP 10 4 0), (tA 57 [.slice e1 x57.holds.length fj, .slice e2 x57.turns.length fk, .slice e3 x57.spares.length fl]), (tI 9 x38.2), (tP 8 3 0), (tP 2 0 0)] kd ∧ Mem ⟨w, h, noX⟩ ec [(a, 0), (d, 0), (e, 0), (f, 0), (dz, 0), (d0, 0)] (K8p20 g r_ l i m k p more q x32 x s y u z aa x38 ad ab ae ac af) [] w' ∧ Heap.le am ec ∧ RepS ec e1 fj x57.holds ∧ RepS ec e2 fk x57.turns ∧ RepS ec e3 fl x57.spares) → W [(a, 0), (d, 0), (e, 0), (f, 0), (dz, 0), (d0, 0)] (K8p19 g r_ l i m k p more q x32 x s y u z aa x38 ad ab ae ac af) [1, 4, 5, 0] a' w') ?_ (fun j3 => ?_)
    ·
     intro dz d0 e1 fj e2 fk e3 fl
     rintro _ y6 ⟨kd, ec, rfl, qh, jp, rr, sz, s0, s1⟩
     refine Dl 2 fun K hK => ?_
     refine wp_quiet qh (PlOk.forget [4] jp.plOk) rfl (by decide) (by kernel_rfl) fun ue (qi : Kn 88 [(a, 0), (d, 0), (e, 0), (f, 0), (dz, 0), (d0, 0)] [(tA 58 (K8c10 aa x38 ad ab ae ac af)), (tP 11 5 0), (tP 10 4 0), (tA 57 [.slice e1 x57.holds.length fj, .slice e2 x57.turns.length fk, .slice e3 x57.spares.length fl]), (tI 9 x38.2), (tP 8 3 0), (tP 2 0 0)] ue) => hK _ _ (PlOk.forget [4] jp.plOk) ?_
     refine D_perm [1, 2, 4, 5, 0] (by kernel_rfl) (by rfl) (g5 dz d0 e1 fj e2 fk e3 fl _ _ ?_)
     exact Exists.intro _ ⟨_, rfl, qi.kp, jp, rr, sz, s0, s1⟩
    refine D_share (fun W => ∀ (d1 : Nat), ∀ (d2 : Nat), ∀ a' w', (∃ (ke : Array Value) (gk : Heap), a' = ⟨ke, []⟩ ∧ Kn 88 [(a, 0), (d, 0), (e, 0), (f, 0), (d1, 0), (d2, 0)] [(tP 11 5 0), (tP 10 4 0), (tA 58 (K8c10 aa x38 ad ab ae ac af)), (tA 56 (K8c9 q x32 x s y u z)), (tI 9 x38.2), (tP 2 0 0)] ke ∧ Mem ⟨w, h, noX⟩ gk [(a, 0), (d, 0), (e, 0), (f, 0), (d1, 0), (d2, 0)] (K8p20 g r_ l i m k p more q x32 x s y u z aa x38 ad ab ae ac af) [] w' ∧ Heap.le am gk) → W [(a, 0), (d, 0), (e, 0), (f, 0), (d1, 0), (d2, 0)] (K8p19 g r_ l i m k p more q x32 x s y u z aa x38 ad ab ae ac af) [2, 4, 5, 0] a' w') ?_ (fun j4 => ?_)
    ·
     intro d1 d2
     rintro _ y8 ⟨ke, gk, rfl, qj, l0, gr⟩
     replace aj := aj.mono gr
     replace ak := ak.mono gr
     replace al := al.mono gr
     refine Dl 1 fun K hK => ?_
     refine wc [.agg (K8c9 q x32 x s y u z)] qj l0 (law_Back_ok n l0.has (Acts.mk x32.1.holds x32.1.turns x32.1.spares) ((rep_pair (rep_slice aj) (rep_pair (rep_slice ak) (rep_slice al))) : rep gk (Acts.mk x32.1.holds x32.1.turns x32.1.spares) _) ex57) fun x8 wo y9 n1 rs l1 => ?_
     obtain ⟨_, rfl, ⟨_, _, rfl, ⟨hg, ii, rfl, s2⟩, ⟨_, _, rfl, ⟨hl, ij, rfl, s3⟩, ⟨hn, ik, rfl, s4⟩⟩⟩⟩ := n1
     refine ⟨.one (.agg [.slice hg x57.holds.length ii, .slice hl x57.turns.length ij, .slice hn x57.spares.length ik]), rfl, fun uf (qk : Kn 88 [(a, 0), (d, 0), (e, 0), (f, 0), (d1, 0), (d2, 0)] [(tA 57 [.slice hg x57.holds.length ii, .slice hl x57.turns.length ij, .slice hn x57.spares.length ik]), (tP 11 5 0), (tP 10 4 0), (tA 58 (K8c10 aa x38 ad ab ae ac af)), (tA 56 (K8c9 q x32 x s y u z)), (tI 9 x38.2), (tP 2 0 0)] uf) => hK _ _ (PlOk.forget [4] l1.plOk) ?_⟩
     refine D_perm [1, 2, 4, 5, 0] (by kernel_rfl) (by rfl) (g5 d1 d2 hg ii hl ij hn ik _ _ ?_)
     exact Exists.intro _ ⟨_, rfl, qk.kp, l1, (Heap.le_trans gr rs), s2, s3, s4⟩
    refine D_share (fun W => ∀ (bc : Option Addr), ∀ (bf : Nat), ∀ (bd : Option Addr), ∀ (bg : Nat), ∀ (be : Option Addr), ∀ (bh : Nat), ∀ a' w', (∃ (kf : Array Value) (ce : Heap), a' = ⟨kf, []⟩ ∧ Kn 88 (K8e3 a d e f) [(tA 58 (K8c10 aa x38 ad ab ae ac af)), (tA 57 (K8c7 bc x57 bf bd bg be bh)), (tI 9 x38.2), (tP 2 0 0)] kf ∧ Mem ⟨w, h, noX⟩ ce (K8e3 a d e f) [⟨(K8c12 g r_ l i m k p), some 28⟩, ⟨(K8c15 g r_ l i m k p more), some 28⟩, ⟨(K8c9 q x32 x s y u z), some 34⟩, ⟨(K8c10 aa x38 ad ab ae ac af), some 34⟩, ⟨[], none⟩, ⟨[], none⟩] [] w' ∧ Heap.le am ce ∧ RepS ce bc bf x57.holds ∧ RepS ce bd bg x57.turns ∧ RepS ce be bh x57.spares) → W (K8e3 a d e f) [⟨(K8c12 g r_ l i m k p), some 28⟩, ⟨(K8c15 g r_ l i m k p more), some 28⟩, ⟨(K8c9 q x32 x s y u z), some 34⟩, ⟨(K8c10 aa x38 ad ab ae ac af), some 34⟩, ⟨[], none⟩, ⟨[], none⟩] [1, 2, 0] a' w') ?_ (fun m1 => ?_)
    ·
     intro bc bf bd bg be bh
     rintro _ za ⟨kf, ce, rfl, jc, gw, bk, ei, ej, ek⟩
     replace ag := ag.mono bk
     replace ah := ah.mono bk
     replace ai := ai.mono bk
     replace aj := aj.mono bk
     replace ak := ak.mono bk
     replace al := al.mono bk
     replace ap := ap.mono bk
     replace aq := aq.mono bk
     replace ar := ar.mono bk
     refine D_three 3 4 5 rfl rfl rfl (by kernel_rfl) (by decide) (rfl) (rfl) (rfl) (fun K hK => ?_) (fun K hK => ?_) (fun K hK => ?_)
     ·
      refine wc [.agg (K8c10 aa x38 ad ab ae ac af)] jc gw (law_Back_ok n gw.has (Acts.mk x38.1.holds x38.1.turns x38.1.spares) ((rep_pair (rep_slice ap) (rep_pair (rep_slice aq) (rep_slice ar))) : rep ce (Acts.mk x38.1.holds x38.1.turns x38.1.spares) _) ex59) fun x9 ko zb n3 fz jq => ?_
      replace ek := ek.mono fz
      replace ei := ei.mono fz
      replace ej := ej.mono fz
      obtain ⟨_, rfl, ⟨_, _, rfl, ⟨dr, d6, rfl, mq⟩, ⟨_, _, rfl, ⟨ds, d7, rfl, mr⟩, ⟨dt, d8, rfl, ms⟩⟩⟩⟩ := n3
      refine ⟨.one (.agg [.slice dr x59.holds.length d6, .slice ds x59.turns.length d7, .slice dt x59.spares.length d8]), rfl, fun uh (lb : Kn 88 (K8e3 a d e f) [(tA 59 [.slice dr x59.holds.length d6, .slice ds x59.turns.length d7, .slice dt x59.spares.length d8]), (tA 58 (K8c10 aa x38 ad ab ae ac af)), (tA 57 (K8c7 bc x57 bf bd bg be bh)), (tI 9 x38.2), (tP 2 0 0)] uh) => hK _ _ jq.plOk ?_⟩
      refine D_two 4 5 rfl rfl (by kernel_rfl) (by decide) (rfl) (rfl) (fun K hK => ?_) (fun K hK => ?_)
      ·
       refine waA 4 K8c2 lb jq fun f5 ui vr (qm : Kn 88 [(a, 0), (d, 0), (e, 0), (f, 0), (f5, 0), (0, 0)] [(tP 10 4 0), (tA 59 [.slice dr x59.holds.length d6, .slice ds x59.turns.length d7, .slice dt x59.spares.length d8]), (tA 58 (K8c10 aa x38 ad ab ae ac af)), (tA 57 (K8c7 bc x57 bf bd bg be bh)), (tI 9 x38.2), (tP 2 0 0)] ui) (l3 : Mem ⟨w, h, noX⟩ ko [(a, 0), (d, 0), (e, 0), (f, 0), (f5, 0), (0, 0)] (K8p17 g r_ l i m k p more q x32 x s y u z aa x38 ad ab ae ac af) [] vr) => hK _ _ (PlOk.unset 4 rfl (by kernel_rfl) (PlOk.forget [4] l3.plOk)) (D_ext (e' := [(a, 0), (d, 0), (e, 0), (f, 0), (f5, 0), (0, 0)]) (pl' := (K8p16 g r_ l i m k p more q x32 x s y u z aa x38 ad ab ae ac af)) (fun _ hp => hp.unset 4 rfl (by kernel_rfl)) ?_)
       refine D_perm [3, 1, 2, 4, 0] (by kernel_rfl) (by rfl) (mz f5 dr d6 ds d7 dt d8 bc bf bd bg be bh _ _ ?_)
       exact Exists.intro _ ⟨_, rfl, qm.kp, l3, (Heap.le_trans bk fz), mq, mr, ms, ei, ej, ek⟩
      ·
       refine waA 5 K8c2 lb jq fun f6 uj vs (qn : Kn 88 [(a, 0), (d, 0), (e, 0), (f, 0), (0, 0), (f6, 0)] [(tP 11 5 0), (tA 59 [.slice dr x59.holds.length d6, .slice ds x59.turns.length d7, .slice dt x59.spares.length d8]), (tA 58 (K8c10 aa x38 ad ab ae ac af)), (tA 57 (K8c7 bc x57 bf bd bg be bh)), (tI 9 x38.2), (tP 2 0 0)] uj) (l4 : Mem ⟨w, h, noX⟩ ko [(a, 0), (d, 0), (e, 0), (f, 0), (0, 0), (f6, 0)] (K8p18 g r_ l i m k p more q x32 x s y u z aa x38 ad ab ae ac af) [] vs) => hK _ _ (PlOk.unset 5 rfl (by kernel_rfl) l4.plOk) (D_ext (e' := [(a, 0), (d, 0), (e, 0), (f, 0), (0, 0), (f6, 0)]) (pl' := (K8p18 g r_ l i m k p more q x32 x s y u z aa x38 ad ab ae ac af)) (fun _ hp => hp.unset 5 rfl (by kernel_rfl)) ?_)
       refine D_perm [3, 1, 2, 5, 0] (by kernel_rfl) (by rfl) (m0 f6 dr d6 ds d7 dt d8 bc bf bd bg be bh _ _ ?_)
       exact Exists.intro _ ⟨_, rfl, qn.kp, l4, (Heap.le_trans bk fz), mq, mr, ms, ei, ej, ek⟩
     ·
      refine waA 4 K8c2 jc gw fun f7 uk vt (qo : Kn 88 [(a, 0), (d, 0), (e, 0), (f, 0), (f7, 0), (0, 0)] [(tP 10 4 0), (tA 58 (K8c10 aa x38 ad ab ae ac af)), (tA 57 (K8c7 bc x57 bf bd bg be bh)), (tI 9 x38.2), (tP 2 0 0)] uk) (l5 : Mem ⟨w, h, noX⟩ ce [(a, 0), (d, 0), (e, 0), (f, 0), (f7, 0), (0, 0)] (K8p17 g r_ l i m k p more q x32 x s y u z aa x38 ad ab ae ac af) [] vt) => hK _ _ (PlOk.unset 4 rfl (by kernel_rfl) (PlOk.forget [4] l5.plOk)) (D_ext (e' := [(a, 0), (d, 0), (e, 0), (f, 0), (f7, 0), (0, 0)]) (pl' := (K8p16 g r_ l i m k p more q x32 x s y u z aa x38 ad ab ae ac af)) (fun _ hp => hp.unset 4 rfl (by kernel_rfl)) ?_)
      refine D_perm [1, 2, 4, 0] (by kernel_rfl) (by rfl) (j1 f7 bc bf bd bg be bh _ _ ?_)
      exact Exists.intro _ ⟨_, rfl, qo.kp, l5, bk, ei, ej, ek⟩
     ·
      refine waA 5 K8c2 jc gw fun f8 ul vu (qq : Kn 88 [(a, 0), (d, 0), (e, 0), (f, 0), (0, 0), (f8, 0)] [(tP 11 5 0), (tA 58 (K8c10 aa x38 ad ab ae ac af)), (tA 57 (K8c7 bc x57 bf bd bg be bh)), (tI 9 x38.2), (tP 2 0 0)] ul) (l6 : Mem ⟨w, h, noX⟩ ce [(a, 0), (d, 0), (e, 0), (f, 0), (0, 0), (f8, 0)] (K8p18 g r_ l i m k p more q x32 x s y u z aa x38 ad ab ae ac af) [] vu) => hK _ _ (PlOk.unset 5 rfl (by kernel_rfl) l6.plOk) (D_ext (e' := [(a, 0), (d, 0), (e, 0), (f, 0), (0, 0), (f8, 0)]) (pl' := (K8p18 g r_ l i m k p more q x32 x s y u z aa x38 ad ab ae ac af)) (fun _ hp => hp.unset 5 rfl (by kernel_rfl)) ?_)
      refine D_perm [1, 2, 5, 0] (by kernel_rfl) (by rfl) (j2 f8 bc bf bd bg be bh _ _ ?_)
      exact Exists.intro _ ⟨_, rfl, qq.kp, l6, bk, ei, ej, ek⟩
    refine D_share (fun W => ∀ (b4 : Nat), ∀ (cv : Option Addr), ∀ (c7 : Nat), ∀ (cw : Option Addr), ∀ (c8 : Nat), ∀ (cx : Option Addr), ∀ (c9 : Nat), ∀ a' w', (∃ (kg : Array Value) (df : Heap), a' = ⟨kg, []⟩ ∧ Kn 88 [(a, 0), (d, 0), (e, 0), (f, 0), (b4, 0), (0, 0)] [(tP 10 4 0), (tA 57 [.slice cv x57.holds.length c7, .slice cw x57.turns.length c8, .slice cx x57.spares.length c9]), (tI 9 x38.2), (tP 8 3 0), (tP 2 0 0)] kg ∧ Mem ⟨w, h, noX⟩ df [(a, 0), (d, 0), (e, 0), (f, 0), (b4, 0), (0, 0)] (K8p17 g r_ l i m k p more q x32 x s y u z aa x38 ad ab ae ac af) [] w' ∧ Heap.le am df ∧ RepS df cv c7 x57.holds ∧ RepS df cw c8 x57.turns ∧ RepS df cx c9 x57.spares) → W [(a, 0), (d, 0), (e, 0), (f, 0), (b4, 0), (0, 0)] (K8p16 g r_ l i m k p more q x32 x s y u z aa x38 ad ab ae ac af) [1, 4, 0] a' w') ?_ (fun m2 => ?_)
    ·
     intro b4 cv c7 cw c8 cx c9
     rintro _ zc ⟨kg, df, rfl, lc, gx, li, mt, mu, mv⟩
     refine D_two 2 5 rfl rfl (by kernel_rfl) (by decide) (rfl) (rfl) (fun K hK => ?_) (fun K hK => ?_)
     ·
      refine wp_quiet lc (PlOk.forget [4] gx.plOk) rfl (by decide) (by kernel_rfl) fun um (qs : Kn 88 [(a, 0), (d, 0), (e, 0), (f, 0), (b4, 0), (0, 0)] [(tA 58 (K8c10 aa x38 ad ab ae ac af)), (tP 10 4 0), (tA 57 [.slice cv x57.holds.length c7, .slice cw x57.turns.length c8, .slice cx x57.spares.length c9]), (tI 9 x38.2), (tP 8 3 0), (tP 2 0 0)] um) => hK _ _ (PlOk.forget [4] gx.plOk) ?_
      refine D_perm [1, 2, 4, 0] (by kernel_rfl) (by rfl) (j1 b4 cv c7 cw c8 cx c9 _ _ ?_)
      exact Exists.intro _ ⟨_, rfl, qs.kp, gx, li, mt, mu, mv⟩
     ·
      refine waA 5 K8c2 lc gx fun f9 un vv (qt : Kn 88 [(a, 0), (d, 0), (e, 0), (f, 0), (b4, 0), (f9, 0)] [(tP 11 5 0), (tP 10 4 0), (tA 57 [.slice cv x57.holds.length c7, .slice cw x57.turns.length c8, .slice cx x57.spares.length c9]), (tI 9 x38.2), (tP 8 3 0), (tP 2 0 0)] un) (l7 : Mem ⟨w, h, noX⟩ df [(a, 0), (d, 0), (e, 0), (f, 0), (b4, 0), (f9, 0)] (K8p20 g r_ l i m k p more q x32 x s y u z aa x38 ad ab ae ac af) [] vv) => hK _ _ (PlOk.unset 5 rfl (by kernel_rfl) (PlOk.forget [4] l7.plOk)) (D_ext (e' := [(a, 0), (d, 0), (e, 0), (f, 0), (b4, 0), (f9, 0)]) (pl' := (K8p19 g r_ l i m k p more q x32 x s y u z aa x38 ad ab ae ac af)) (fun _ hp => hp.unset 5 rfl (by kernel_rfl)) ?_)
      refine D_perm [1, 4, 5, 0] (by kernel_rfl) (by rfl) (j3 b4 f9 cv c7 cw c8 cx c9 _ _ ?_)
      exact Exists.intro _ ⟨_, rfl, qt.kp, l7, li, mt, mu, mv⟩
    refine D_share (fun W => ∀ (b5 : Nat), ∀ (cy : Option Addr), ∀ (da : Nat), ∀ (cz : Option Addr), ∀ (db : Nat), ∀ (c0 : Option Addr), ∀ (dc : Nat), ∀ a' w', (∃ (kh : Array Value) (dg : Heap), a' = ⟨kh, []⟩ ∧ Kn 88 [(a, 0), (d, 0), (e, 0), (f, 0), (0, 0), (b5, 0)] [(tP 11 5 0), (tA 57 [.slice cy x57.holds.length da, .slice cz x57.turns.length db, .slice c0 x57.spares.length dc]), (tI 9 x38.2), (tP 8 3 0), (tP 2 0 0)] kh ∧ Mem ⟨w, h, noX⟩ dg [(a, 0), (d, 0), (e, 0), (f, 0), (0, 0), (b5, 0)] (K8p18 g r_ l i m k p more q x32 x s y u z aa x38 ad ab ae ac af) [] w' ∧ Heap.le am dg ∧ RepS dg cy da x57.holds ∧ RepS dg cz db x57.turns ∧ RepS dg c0 dc x57.spares) → W [(a, 0), (d, 0), (e, 0), (f, 0), (0, 0), (b5, 0)] (K8p18 g r_ l i m k p more q x32 x s y u z aa x38 ad ab ae ac af) [1, 5, 0] a' w') ?_ (fun m3 => ?_)
    ·
     intro b5 cy da cz db c0 dc
     rintro _ zd ⟨kh, dg, rfl, ld, gy, lj, mw, mx, my⟩
     refine D_two 2 4 rfl rfl (by kernel_rfl) (by decide) (rfl) (rfl) (fun K hK => ?_) (fun K hK => ?_)
     ·
      refine wp_quiet ld gy.plOk rfl (by decide) (by kernel_rfl) fun uo (qu : Kn 88 [(a, 0), (d, 0), (e, 0), (f, 0), (0, 0), (b5, 0)] [(tA 58 (K8c10 aa x38 ad ab ae ac af)), (tP 11 5 0), (tA 57 [.slice cy x57.holds.length da, .slice cz x57.turns.length db, .slice c0 x57.spares.length dc]), (tI 9 x38.2), (tP 8 3 0), (tP 2 0 0)] uo) => hK _ _ gy.plOk ?_
      refine D_perm [1, 2, 5, 0] (by kernel_rfl) (by rfl) (j2 b5 cy da cz db c0 dc _ _ ?_)
      exact Exists.intro _ ⟨_, rfl, qu.kp, gy, lj, mw, mx, my⟩
     ·
      refine waA 4 K8c2 ld gy fun ga uq vx (qv : Kn 88 [(a, 0), (d, 0), (e, 0), (f, 0), (ga, 0), (b5, 0)] [(tP 10 4 0), (tP 11 5 0), (tA 57 [.slice cy x57.holds.length da, .slice cz x57.turns.length db, .slice c0 x57.spares.length dc]), (tI 9 x38.2), (tP 8 3 0), (tP 2 0 0)] uq) (l8 : Mem ⟨w, h, noX⟩ dg [(a, 0), (d, 0), (e, 0), (f, 0), (ga, 0), (b5, 0)] (K8p20 g r_ l i m k p more q x32 x s y u z aa x38 ad ab ae ac af) [] vx) => hK _ _ (PlOk.unset 4 rfl (by kernel_rfl) (PlOk.forget [4] l8.plOk)) (D_ext (e' := [(a, 0), (d, 0), (e, 0), (f, 0), (ga, 0), (b5, 0)]) (pl' := (K8p19 g r_ l i m k p more q x32 x s y u z aa x38 ad ab ae ac af)) (fun _ hp => hp.unset 4 rfl (by kernel_rfl)) ?_)
      refine D_perm [1, 4, 5, 0] (by kernel_rfl) (by rfl) (j3 ga b5 cy da cz db c0 dc _ _ ?_)
      exact Exists.intro _ ⟨_, rfl, qv.kp, l8, lj, mw, mx, my⟩
    refine D_share (fun W => ∀ (b6 : Nat), ∀ a' w', (∃ (ki : Array Value) (fm : Heap), a' = ⟨ki, []⟩ ∧ Kn 88 [(a, 0), (d, 0), (e, 0), (f, 0), (b6, 0), (0, 0)] [(tP 10 4 0), (tA 58 (K8c10 aa x38 ad ab ae ac af)), (tA 56 (K8c9 q x32 x s y u z)), (tI 9 x38.2), (tP 2 0 0)] ki ∧ Mem ⟨w, h, noX⟩ fm [(a, 0), (d, 0), (e, 0), (f, 0), (b6, 0), (0, 0)] (K8p17 g r_ l i m k p more q x32 x s y u z aa x38 ad ab ae ac af) [] w' ∧ Heap.le am fm) → W [(a, 0), (d, 0), (e, 0), (f, 0), (b6, 0), (0, 0)] (K8p16 g r_ l i m k p more q x32 x s y u z aa x38 ad ab ae ac af) [2, 4, 0] a' w') ?_ (fun m4 => ?_)
    ·
     intro b6
     rintro _ ze ⟨ki, fm, rfl, lf, jr, bs⟩
     replace ag := ag.mono bs
     replace ah := ah.mono bs
     replace ai := ai.mono bs
     replace aj := aj.mono bs
     replace ak := ak.mono bs
     replace al := al.mono bs
     replace ap := ap.mono bs
     replace aq := aq.mono bs
     replace ar := ar.mono bs
     refine D_two 1 5 rfl rfl (by kernel_rfl) (by decide) (rfl) (rfl) (fun K hK => ?_) (fun K hK => ?_)
     ·
      refine wc [.agg (K8c9 q x32 x s y u z)] lf jr (law_Back_ok n jr.has (Acts.mk x32.1.holds x32.1.turns x32.1.spares) ((rep_pair (rep_slice aj) (rep_pair (rep_slice ak) (rep_slice al))) : rep fm (Acts.mk x32.1.holds x32.1.turns x32.1.spares) _) ex57) fun ya wp zf n4 ru l9 => ?_
      obtain ⟨_, rfl, ⟨_, _, rfl, ⟨ho, il, rfl, s5⟩, ⟨_, _, rfl, ⟨hq, im, rfl, s6⟩, ⟨hr, io, rfl, s7⟩⟩⟩⟩ := n4
      refine ⟨.one (.agg [.slice ho x57.holds.length il, .slice hq x57.turns.length im, .slice hr x57.spares.length io]), rfl, fun ur (qx : Kn 88 [(a, 0), (d, 0), (e, 0), (f, 0), (b6, 0), (0, 0)] [(tA 57 [.slice ho x57.holds.length il, .slice hq x57.turns.length im, .slice hr x57.spares.length io]), (tP 10 4 0), (tA 58 (K8c10 aa x38 ad ab ae ac af)), (tA 56 (K8c9 q x32 x s y u z)), (tI 9 x38.2), (tP 2 0 0)] ur) => hK _ _ (PlOk.forget [4] l9.plOk) ?_⟩
      refine D_perm [1, 2, 4, 0] (by kernel_rfl) (by rfl) (j1 b6 ho il hq im hr io _ _ ?_)
      exact Exists.intro _ ⟨_, rfl, qx.kp, l9, (Heap.le_trans bs ru), s5, s6, s7⟩
     ·
      refine waA 5 K8c2 lf jr fun gb ut vz (qy : Kn 88 [(a, 0), (d, 0), (e, 0), (f, 0), (b6, 0), (gb, 0)] [(tP 11 5 0), (tP 10 4 0), (tA 58 (K8c10 aa x38 ad ab ae ac af)), (tA 56 (K8c9 q x32 x s y u z)), (tI 9 x38.2), (tP 2 0 0)] ut) (ma : Mem ⟨w, h, noX⟩ fm [(a, 0), (d, 0), (e, 0), (f, 0), (b6, 0), (gb, 0)] (K8p20 g r_ l i m k p more q x32 x s y u z aa x38 ad ab ae ac af) [] vz) => hK _ _ (PlOk.unset 5 rfl (by kernel_rfl) (PlOk.forget [4] ma.plOk)) (D_ext (e' := [(a, 0), (d, 0), (e, 0), (f, 0), (b6, 0), (gb, 0)]) (pl' := (K8p19 g r_ l i m k p more q x32 x s y u z aa x38 ad ab ae ac af)) (fun _ hp => hp.unset 5 rfl (by kernel_rfl)) ?_)
      refine D_perm [2, 4, 5, 0] (by kernel_rfl) (by rfl) (j4 b6 gb _ _ ?_)
      exact Exists.intro _ ⟨_, rfl, qy.kp, ma, bs⟩
    refine D_share (fun W => ∀ (b7 : Nat), ∀ a' w', (∃ (kj : Array Value) (fn : Heap), a' = ⟨kj, []⟩ ∧ Kn 88 [(a, 0), (d, 0), (e, 0), (f, 0), (0, 0), (b7, 0)] [(tP 11 5 0), (tA 58 (K8c10 aa x38 ad ab ae ac af)), (tA 56 (K8c9 q x32 x s y u z)), (tI 9 x38.2), (tP 2 0 0)] kj ∧ Mem ⟨w, h, noX⟩ fn [(a, 0), (d, 0), (e, 0), (f, 0), (0, 0), (b7, 0)] (K8p18 g r_ l i m k p more q x32 x s y u z aa x38 ad ab ae ac af) [] w' ∧ Heap.le am fn) → W [(a, 0), (d, 0), (e, 0), (f, 0), (0, 0), (b7, 0)] (K8p18 g r_ l i m k p more q x32 x s y u z aa x38 ad ab ae ac af) [2, 5, 0] a' w') ?_ (fun m5 => ?_)
    ·
     intro b7
     rintro _ zg ⟨kj, fn, rfl, lg, js, bt⟩
     replace ag := ag.mono bt
     replace ah := ah.mono bt
     replace ai := ai.mono bt
     replace aj := aj.mono bt
     replace ak := ak.mono bt
     replace al := al.mono bt
     replace ap := ap.mono bt
     replace aq := aq.mono bt
     replace ar := ar.mono bt
     refine D_two 1 4 rfl rfl (by kernel_rfl) (by decide) (rfl) (rfl) (fun K hK => ?_) (fun K hK => ?_)
     ·
      refine wc [.agg (K8c9 q x32 x s y u z)] lg js (law_Back_ok n js.has (Acts.mk x32.1.holds x32.1.turns x32.1.spares) ((rep_pair (rep_slice aj) (rep_pair (rep_slice ak) (rep_slice al))) : rep fn (Acts.mk x32.1.holds x32.1.turns x32.1.spares) _) ex57) fun yb wq zh n5 rv mb => ?_
      obtain ⟨_, rfl, ⟨_, _, rfl, ⟨hs, ip, rfl, s8⟩, ⟨_, _, rfl, ⟨ht, iq, rfl, s9⟩, ⟨hu, ir, rfl, ta⟩⟩⟩⟩ := n5
      refine ⟨.one (.agg [.slice hs x57.holds.length ip, .slice ht x57.turns.length iq, .slice hu x57.spares.length ir]), rfl, fun uu (q0 : Kn 88 [(a, 0), (d, 0), (e, 0), (f, 0), (0, 0), (b7, 0)] [(tA 57 [.slice hs x57.holds.length ip, .slice ht x57.turns.length iq, .slice hu x57.spares.length ir]), (tP 11 5 0), (tA 58 (K8c10 aa x38 ad ab ae ac af)), (tA 56 (K8c9 q x32 x s y u z)), (tI 9 x38.2), (tP 2 0 0)] uu) => hK _ _ mb.plOk ?_⟩
      refine D_perm [1, 2, 5, 0] (by kernel_rfl) (by rfl) (j2 b7 hs ip ht iq hu ir _ _ ?_)
      exact Exists.intro _ ⟨_, rfl, q0.kp, mb, (Heap.le_trans bt rv), s8, s9, ta⟩
     ·
      refine waA 4 K8c2 lg js fun gc uv v0 (q2 : Kn 88 [(a, 0), (d, 0), (e, 0), (f, 0), (gc, 0), (b7, 0)] [(tP 10 4 0), (tP 11 5 0), (tA 58 (K8c10 aa x38 ad ab ae ac af)), (tA 56 (K8c9 q x32 x s y u z)), (tI 9 x38.2), (tP 2 0 0)] uv) (md : Mem ⟨w, h, noX⟩ fn [(a, 0), (d, 0), (e, 0), (f, 0), (gc, 0), (b7, 0)] (K8p20 g r_ l i m k p more q x32 x s y u z aa x38 ad ab ae ac af) [] v0) => hK _ _ (PlOk.unset 4 rfl (by kernel_rfl) (PlOk.forget [4] md.plOk)) (D_ext (e' := [(a, 0), (d, 0), (e, 0), (f, 0), (gc, 0), (b7, 0)]) (pl' := (K8p19 g r_ l i m k p more q x32 x s y u z aa x38 ad ab ae ac af)) (fun _ hp => hp.unset 4 rfl (by kernel_rfl)) ?_)
      refine D_perm [2, 4, 5, 0] (by kernel_rfl) (by rfl) (j4 gc b7 _ _ ?_)
      exact Exists.intro _ ⟨_, rfl, q2.kp, md, bt⟩
    refine D_share (fun W => ∀ (ci : Nat), ∀ (cj : Nat), ∀ a' w', (∃ (kk : Array Value) (gl : Heap), a' = ⟨kk, []⟩ ∧ Kn 88 [(a, 0), (d, 0), (e, 0), (f, 0), (ci, 0), (cj, 0)] ((tP 11 5 0) :: (tP 10 4 0) :: (K8m21 q x32 x s y u z x38)) kk ∧ Mem ⟨w, h, noX⟩ gl [(a, 0), (d, 0), (e, 0), (f, 0), (ci, 0), (cj, 0)] (K8p20 g r_ l i m k p more q x32 x s y u z aa x38 ad ab ae ac af) [] w' ∧ Heap.le am gl) → W [(a, 0), (d, 0), (e, 0), (f, 0), (ci, 0), (cj, 0)] (K8p19 g r_ l i m k p more q x32 x s y u z aa x38 ad ab ae ac af) [4, 5, 0] a' w') ?_ (fun m6 => ?_)
    ·
     intro ci cj
     rintro _ zi ⟨kk, gl, rfl, lh, f0, bu⟩
     replace ag := ag.mono bu
     replace ah := ah.mono bu
     replace ai := ai.mono bu
     replace aj := aj.mono bu
     replace ak := ak.mono bu
     replace al := al.mono bu
     replace ap := ap.mono bu
     replace aq := aq.mono bu
     replace ar := ar.mono bu
     refine D_two 1 2 rfl rfl (by kernel_rfl) (by decide) (rfl) (rfl) (fun K hK => ?_) (fun K hK => ?_)
     ·
      refine wc [.agg (K8c9 q x32 x s y u z)] lh f0 (law_Back_ok n f0.has (Acts.mk x32.1.holds x32.1.turns x32.1.spares) ((rep_pair (rep_slice aj) (rep_pair (rep_slice ak) (rep_slice al))) : rep gl (Acts.mk x32.1.holds x32.1.turns x32.1.spares) _) ex57) fun yc wr zj n6 rx me => ?_
      obtain ⟨_, rfl, ⟨_, _, rfl, ⟨hv, iu, rfl, tb⟩, ⟨_, _, rfl, ⟨hw, iv, rfl, tc⟩, ⟨hx, iw, rfl, td⟩⟩⟩⟩ := n6
      refine ⟨.one (.agg [.slice hv x57.holds.length iu, .slice hw x57.turns.length iv, .slice hx x57.spares.length iw]), rfl, fun ux (q4 : Kn 88 [(a, 0), (d, 0), (e, 0), (f, 0), (ci, 0), (cj, 0)] ((tA 57 [.slice hv x57.holds.length iu, .slice hw x57.turns.length iv, .slice hx x57.spares.length iw]) :: (tP 11 5 0) :: (tP 10 4 0) :: (K8m21 q x32 x s y u z x38)) ux) => hK _ _ (PlOk.forget [4] me.plOk) ?_⟩
      refine D_perm [1, 4, 5, 0] (by kernel_rfl) (by rfl) (j3 ci cj hv iu hw iv hx iw _ _ ?_)
      exact Exists.intro _ ⟨_, rfl, q4.kp, me, (Heap.le_trans bu rx), tb, tc, td⟩
     ·
      refine wp_quiet lh (PlOk.forget [4] f0.plOk) rfl (by decide) (by kernel_rfl) fun uy (q5 : Kn 88 [(a, 0), (d, 0), (e, 0), (f, 0), (ci, 0), (cj, 0)] ((tA 58 (K8c10 aa x38 ad ab ae ac af)) :: (tP 11 5 0) :: (tP 10 4 0) :: (K8m21 q x32 x s y u z x38)) uy) => hK _ _ (PlOk.forget [4] f0.plOk) ?_
      refine D_perm [2, 4, 5, 0] (by kernel_rfl) (by rfl) (j4 ci cj _ _ ?_)
      exact Exists.intro _ ⟨_, rfl, q5.kp, f0, bu⟩
    refine D_four 1 2 4 5 rfl rfl rfl rfl (by kernel_rfl) (by decide) (rfl) (rfl) (rfl) (rfl) (fun K hK => ?_) (fun K hK => ?_) (fun K hK => ?_) (fun K hK => ?_)
    ·
     refine wc [.agg (K8c9 q x32 x s y u z)] gm cd (law_Back_ok n cd.has (Acts.mk x32.1.holds x32.1.turns x32.1.spares) ((rep_pair (rep_slice aj) (rep_pair (rep_slice ak) (rep_slice al))) : rep am (Acts.mk x32.1.holds x32.1.turns x32.1.spares) _) ex57) fun yd kq zk n7 jj eh => ?_
     obtain ⟨_, rfl, ⟨_, _, rfl, ⟨bz, b8, rfl, jx⟩, ⟨_, _, rfl, ⟨b0, b9, rfl, jy⟩, ⟨b1, ca, rfl, jz⟩⟩⟩⟩ := n7
     refine ⟨.one (.agg (K8c8 bz x57 b8 b0 b9 b1 ca)), rfl, fun uz (jd : Kn 88 (K8e3 a d e f) ((tA 57 (K8c8 bz x57 b8 b0 b9 b1 ca)) :: (K8m21 q x32 x s y u z x38)) uz) => hK _ _ eh.plOk ?_⟩
     refine D_three 2 4 5 rfl rfl rfl (by kernel_rfl) (by decide) (rfl) (rfl) (rfl) (fun K hK => ?_) (fun K hK => ?_) (fun K hK => ?_)
     ·
      refine wp_quiet jd eh.plOk rfl (by decide) (by kernel_rfl) fun u0 (q7 : Kn 88 (K8e3 a d e f) ((tA 58 (K8c10 aa x38 ad ab ae ac af)) :: (tA 57 (K8c8 bz x57 b8 b0 b9 b1 ca)) :: (K8m21 q x32 x s y u z x38)) u0) => hK _ _ eh.plOk ?_
      refine D_perm [1, 2, 0] (by kernel_rfl) (by rfl) (m1 bz b8 b0 b9 b1 ca _ _ ?_)
      exact Exists.intro _ ⟨_, rfl, q7.kp, eh, jj, jx, jy, jz⟩
     ·
      refine waA 4 K8c2 jd eh fun gd u1 v2 (q8 : Kn 88 [(a, 0), (d, 0), (e, 0), (f, 0), (gd, 0), (0, 0)] ((tP 10 4 0) :: (tA 57 (K8c8 bz x57 b8 b0 b9 b1 ca)) :: (K8m21 q x32 x s y u z x38)) u1) (mf : Mem ⟨w, h, noX⟩ kq [(a, 0), (d, 0), (e, 0), (f, 0), (gd, 0), (0, 0)] (K8p17 g r_ l i m k p more q x32 x s y u z aa x38 ad ab ae ac af) [] v2) => hK _ _ (PlOk.unset 4 rfl (by kernel_rfl) (PlOk.forget [4] mf.plOk)) (D_ext (e' := [(a, 0), (d, 0), (e, 0), (f, 0), (gd, 0), (0, 0)]) (pl' := (K8p16 g r_ l i m k p more q x32 x s y u z aa x38 ad ab ae ac af)) (fun _ hp => hp.unset 4 rfl (by kernel_rfl)) ?_)
      refine D_perm [1, 4, 0] (by kernel_rfl) (by rfl) (m2 gd bz b8 b0 b9 b1 ca _ _ ?_)
      exact Exists.intro _ ⟨_, rfl, q8.kp, mf, jj, jx, jy, jz⟩
     ·
      refine waA 5 K8c2 jd eh fun gf u2 v3 (q9 : Kn 88 [(a, 0), (d, 0), (e, 0), (f, 0), (0, 0), (gf, 0)] ((tP 11 5 0) :: (tA 57 (K8c8 bz x57 b8 b0 b9 b1 ca)) :: (K8m21 q x32 x s y u z x38)) u2) (mg : Mem ⟨w, h, noX⟩ kq [(a, 0), (d, 0), (e, 0), (f, 0), (0, 0), (gf, 0)] (K8p18 g r_ l i m k p more q x32 x s y u z aa x38 ad ab ae ac af) [] v3) => hK _ _ (PlOk.unset 5 rfl (by kernel_rfl) mg.plOk) (D_ext (e' := [(a, 0), (d, 0), (e, 0), (f, 0), (0, 0), (gf, 0)]) (pl' := (K8p18 g r_ l i m k p more q x32 x s y u z aa x38 ad ab ae ac af)) (fun _ hp => hp.unset 5 rfl (by kernel_rfl)) ?_)
      refine D_perm [1, 5, 0] (by kernel_rfl) (by rfl) (m3 gf bz b8 b0 b9 b1 ca _ _ ?_)
      exact Exists.intro _ ⟨_, rfl, q9.kp, mg, jj, jx, jy, jz⟩
    ·
     refine wp_quiet gm cd.plOk rfl (by decide) (by kernel_rfl) fun u3 (je : Kn 88 (K8e3 a d e f) ((tA 58 (K8c10 aa x38 ad ab ae ac af)) :: (K8m21 q x32 x s y u z x38)) u3) => hK _ _ cd.plOk ?_
     refine D_three 1 4 5 rfl rfl rfl (by kernel_rfl) (by decide) (rfl) (rfl) (rfl) (fun K hK => ?_) (fun K hK => ?_) (fun K hK => ?_)
     ·
      refine wc [.agg (K8c9 q x32 x s y u z)] je cd (law_Back_ok n cd.has (Acts.mk x32.1.holds x32.1.turns x32.1.spares) ((rep_pair (rep_slice aj) (rep_pair (rep_slice ak) (rep_slice al))) : rep am (Acts.mk x32.1.holds x32.1.turns x32.1.spares) _) ex57) fun ye ws zl n8 ry mh => ?_
      obtain ⟨_, rfl, ⟨_, _, rfl, ⟨hy, ix, rfl, te⟩, ⟨_, _, rfl, ⟨hz, iy, rfl, tf⟩, ⟨h0, iz, rfl, tg⟩⟩⟩⟩ := n8
      refine ⟨.one (.agg [.slice hy x57.holds.length ix, .slice hz x57.turns.length iy, .slice h0 x57.spares.length iz]), rfl, fun u4 (rb : Kn 88 (K8e3 a d e f) ((tA 57 [.slice hy x57.holds.length ix, .slice hz x57.turns.length iy, .slice h0 x57.spares.length iz]) :: (tA 58 (K8c10 aa x38 ad ab ae ac af)) :: (K8m21 q x32 x s y u z x38)) u4) => hK _ _ mh.plOk ?_⟩
      refine D_perm [1, 2, 0] (by kernel_rfl) (by rfl) (m1 hy ix hz iy h0 iz _ _ ?_)
      exact Exists.intro _ ⟨_, rfl, rb.kp, mh, ry, te, tf, tg⟩
     ·
      refine waA 4 K8c2 je cd fun gg u5 v4 (rd : Kn 88 [(a, 0), (d, 0), (e, 0), (f, 0), (gg, 0), (0, 0)] ((tP 10 4 0) :: (tA 58 (K8c10 aa x38 ad ab ae ac af)) :: (K8m21 q x32 x s y u z x38)) u5) (mi : Mem ⟨w, h, noX⟩ am [(a, 0), (d, 0), (e, 0), (f, 0), (gg, 0), (0, 0)] (K8p17 g r_ l i m k p more q x32 x s y u z aa x38 ad ab ae ac af) [] v4) => hK _ _ (PlOk.unset 4 rfl (by kernel_rfl) (PlOk.forget [4] mi.plOk)) (D_ext (e' := [(a, 0), (d, 0), (e, 0), (f, 0), (gg, 0), (0, 0)]) (pl' := (K8p16 g r_ l i m k p more q x32 x s y u z aa x38 ad ab ae ac af)) (fun _ hp => hp.unset 4 rfl (by kernel_rfl)) ?_)
      refine D_perm [2, 4, 0] (by kernel_rfl) (by rfl) (m4 gg _ _ ?_)
      exact Exists.intro _ ⟨_, rfl, rd.kp, mi, (Heap.le_refl _)⟩
     ·
      refine waA 5 K8c2 je cd fun gh u6 v5 (re : Kn 88 [(a, 0), (d, 0), (e, 0), (f, 0), (0, 0), (gh, 0)] ((tP 11 5 0) :: (tA 58 (K8c10 aa x38 ad ab ae ac af)) :: (K8m21 q x32 x s y u z x38)) u6) (mj : Mem ⟨w, h, noX⟩ am [(a, 0), (d, 0), (e, 0), (f, 0), (0, 0), (gh, 0)] (K8p18 g r_ l i m k p more q x32 x s y u z aa x38 ad ab ae ac af) [] v5) => hK _ _ (PlOk.unset 5 rfl (by kernel_rfl) mj.plOk) (D_ext (e' := [(a, 0), (d, 0), (e, 0), (f, 0), (0, 0), (gh, 0)]) (pl' := (K8p18 g r_ l i m k p more q x32 x s y u z aa x38 ad ab ae ac af)) (fun _ hp => hp.unset 5 rfl (by kernel_rfl)) ?_)
      refine D_perm [2, 5, 0] (by kernel_rfl) (by rfl) (m5 gh _ _ ?_)
      exact Exists.intro _ ⟨_, rfl, re.kp, mj, (Heap.le_refl _)⟩
    ·
     refine waA 4 K8c2 gm cd fun bo u7 v6 (jf : Kn 88 [(a, 0), (d, 0), (e, 0), (f, 0), (bo, 0), (0, 0)] ((tP 10 4 0) :: (K8m21 q x32 x s y u z x38)) u7) (dk : Mem ⟨w, h, noX⟩ am [(a, 0), (d, 0), (e, 0), (f, 0), (bo, 0), (0, 0)] (K8p17 g r_ l i m k p more q x32 x s y u z aa x38 ad ab ae ac af) [] v6) => hK _ _ (PlOk.unset 4 rfl (by kernel_rfl) (PlOk.forget [4] dk.plOk)) (D_ext (e' := [(a, 0), (d, 0), (e, 0), (f, 0), (bo, 0), (0, 0)]) (pl' := (K8p16 g r_ l i m k p more q x32 x s y u z aa x38 ad ab ae ac af)) (fun _ hp => hp.unset 4 rfl (by kernel_rfl)) ?_)
     refine D_three 1 2 5 rfl rfl rfl (by kernel_rfl) (by decide) (rfl) (rfl) (rfl) (fun K hK => ?_) (fun K hK => ?_) (fun K hK => ?_)
     ·
      refine wc [.agg (K8c9 q x32 x s y u z)] jf dk (law_Back_ok n dk.has (Acts.mk x32.1.holds x32.1.turns x32.1.spares) ((rep_pair (rep_slice aj) (rep_pair (rep_slice ak) (rep_slice al))) : rep am (Acts.mk x32.1.holds x32.1.turns x32.1.spares) _) ex57) fun yg wt zm n9 rz ml => ?_
      obtain ⟨_, rfl, ⟨_, _, rfl, ⟨h1, i0, rfl, th⟩, ⟨_, _, rfl, ⟨h2, i1, rfl, ti⟩, ⟨h3, i2, rfl, tj⟩⟩⟩⟩ := n9
      refine ⟨.one (.agg [.slice h1 x57.holds.length i0, .slice h2 x57.turns.length i1, .slice h3 x57.spares.length i2]), rfl, fun u9 (rf : Kn 88 [(a, 0), (d, 0), (e, 0), (f, 0), (bo, 0), (0, 0)] ((tA 57 [.slice h1 x57.holds.length i0, .slice h2 x57.turns.length i1, .slice h3 x57.spares.length i2]) :: (tP 10 4 0) :: (K8m21 q x32 x s y u z x38)) u9) => hK _ _ (PlOk.forget [4] ml.plOk) ?_⟩
      refine D_perm [1, 4, 0] (by kernel_rfl) (by rfl) (m2 bo h1 i0 h2 i1 h3 i2 _ _ ?_)
      exact Exists.intro _ ⟨_, rfl, rf.kp, ml, rz, th, ti, tj⟩
     ·
      refine wp_quiet jf (PlOk.forget [4] dk.plOk) rfl (by decide) (by kernel_rfl) fun va (rg : Kn 88 [(a, 0), (d, 0), (e, 0), (f, 0), (bo, 0), (0, 0)] ((tA 58 (K8c10 aa x38 ad ab ae ac af)) :: (tP 10 4 0) :: (K8m21 q x32 x s y u z x38)) va) => hK _ _ (PlOk.forget [4] dk.plOk) ?_
      refine D_perm [2, 4, 0] (by kernel_rfl) (by rfl) (m4 bo _ _ ?_)
      exact Exists.intro _ ⟨_, rfl, rg.kp, dk, (Heap.le_refl _)⟩
     ·
      refine waA 5 K8c2 jf dk fun gi vb v7 (rh : Kn 88 [(a, 0), (d, 0), (e, 0), (f, 0), (bo, 0), (gi, 0)] ((tP 11 5 0) :: (tP 10 4 0) :: (K8m21 q x32 x s y u z x38)) vb) (mm : Mem ⟨w, h, noX⟩ am [(a, 0), (d, 0), (e, 0), (f, 0), (bo, 0), (gi, 0)] (K8p20 g r_ l i m k p more q x32 x s y u z aa x38 ad ab ae ac af) [] v7) => hK _ _ (PlOk.unset 5 rfl (by kernel_rfl) (PlOk.forget [4] mm.plOk)) (D_ext (e' := [(a, 0), (d, 0), (e, 0), (f, 0), (bo, 0), (gi, 0)]) (pl' := (K8p19 g r_ l i m k p more q x32 x s y u z aa x38 ad ab ae ac af)) (fun _ hp => hp.unset 5 rfl (by kernel_rfl)) ?_)
      refine D_perm [4, 5, 0] (by kernel_rfl) (by rfl) (m6 bo gi _ _ ?_)
      exact Exists.intro _ ⟨_, rfl, rh.kp, mm, (Heap.le_refl _)⟩
    ·
     refine waA 5 K8c2 gm cd fun bp vc v8 (jg : Kn 88 [(a, 0), (d, 0), (e, 0), (f, 0), (0, 0), (bp, 0)] ((tP 11 5 0) :: (K8m21 q x32 x s y u z x38)) vc) (dl : Mem ⟨w, h, noX⟩ am [(a, 0), (d, 0), (e, 0), (f, 0), (0, 0), (bp, 0)] (K8p18 g r_ l i m k p more q x32 x s y u z aa x38 ad ab ae ac af) [] v8) => hK _ _ (PlOk.unset 5 rfl (by kernel_rfl) dl.plOk) (D_ext (e' := [(a, 0), (d, 0), (e, 0), (f, 0), (0, 0), (bp, 0)]) (pl' := (K8p18 g r_ l i m k p more q x32 x s y u z aa x38 ad ab ae ac af)) (fun _ hp => hp.unset 5 rfl (by kernel_rfl)) ?_)
     refine D_three 1 2 4 rfl rfl rfl (by kernel_rfl) (by decide) (rfl) (rfl) (rfl) (fun K hK => ?_) (fun K hK => ?_) (fun K hK => ?_)
     ·
      refine wc [.agg (K8c9 q x32 x s y u z)] jg dl (law_Back_ok n dl.has (Acts.mk x32.1.holds x32.1.turns x32.1.spares) ((rep_pair (rep_slice aj) (rep_pair (rep_slice ak) (rep_slice al))) : rep am (Acts.mk x32.1.holds x32.1.turns x32.1.spares) _) ex57) fun yh wu zo ob r0 mn => ?_
      obtain ⟨_, rfl, ⟨_, _, rfl, ⟨h4, i3, rfl, tk⟩, ⟨_, _, rfl, ⟨h5, i4, rfl, tl⟩, ⟨h6, i5, rfl, tm⟩⟩⟩⟩ := ob
      refine ⟨.one (.agg [.slice h4 x57.holds.length i3, .slice h5 x57.turns.length i4, .slice h6 x57.spares.length i5]), rfl, fun vd (ri : Kn 88 [(a, 0), (d, 0), (e, 0), (f, 0), (0, 0), (bp, 0)] ((tA 57 [.slice h4 x57.holds.length i3, .slice h5 x57.turns.length i4, .slice h6 x57.spares.length i5]) :: (tP 11 5 0) :: (K8m21 q x32 x s y u z x38)) vd) => hK _ _ mn.plOk ?_⟩
      refine D_perm [1, 5, 0] (by kernel_rfl) (by rfl) (m3 bp h4 i3 h5 i4 h6 i5 _ _ ?_)
      exact Exists.intro _ ⟨_, rfl, ri.kp, mn, r0, tk, tl, tm⟩
     ·
      refine wp_quiet jg dl.plOk rfl (by decide) (by kernel_rfl) fun ve (rj : Kn 88 [(a, 0), (d, 0), (e, 0), (f, 0), (0, 0), (bp, 0)] ((tA 58 (K8c10 aa x38 ad ab ae ac af)) :: (tP 11 5 0) :: (K8m21 q x32 x s y u z x38)) ve) => hK _ _ dl.plOk ?_
      refine D_perm [2, 5, 0] (by kernel_rfl) (by rfl) (m5 bp _ _ ?_)
      exact Exists.intro _ ⟨_, rfl, rj.kp, dl, (Heap.le_refl _)⟩
     ·
      refine waA 4 K8c2 jg dl fun gj vf v9 (rk : Kn 88 [(a, 0), (d, 0), (e, 0), (f, 0), (gj, 0), (bp, 0)] ((tP 10 4 0) :: (tP 11 5 0) :: (K8m21 q x32 x s y u z x38)) vf) (mp : Mem ⟨w, h, noX⟩ am [(a, 0), (d, 0), (e, 0), (f, 0), (gj, 0), (bp, 0)] (K8p20 g r_ l i m k p more q x32 x s y u z aa x38 ad ab ae ac af) [] v9) => hK _ _ (PlOk.unset 4 rfl (by kernel_rfl) (PlOk.forget [4] mp.plOk)) (D_ext (e' := [(a, 0), (d, 0), (e, 0), (f, 0), (gj, 0), (bp, 0)]) (pl' := (K8p19 g r_ l i m k p more q x32 x s y u z aa x38 ad ab ae ac af)) (fun _ hp => hp.unset 4 rfl (by kernel_rfl)) ?_)
      refine D_perm [4, 5, 0] (by kernel_rfl) (by rfl) (m6 gj bp _ _ ?_)
      exact Exists.intro _ ⟨_, rfl, rk.kp, mp, (Heap.le_refl _)⟩
end Go.Proofs.Ytokchpjijlebiaa
