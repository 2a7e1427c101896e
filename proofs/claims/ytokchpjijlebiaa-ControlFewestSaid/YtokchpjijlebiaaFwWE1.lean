/- Each call computes its plain function. -/
import Derived.Test.YtokchpjijlebiaaProg
import Derived.Test.YtokchpjijlebiaaFwP0
import Derived.Test.YtokchpjijlebiaaFwWA
import Derived.Test.YtokchpjijlebiaaFwWA1
import Derived.Test.YtokchpjijlebiaaFwWB
import Derived.Test.YtokchpjijlebiaaFwWB1
import Derived.Test.YtokchpjijlebiaaFwWC
import Derived.Test.YtokchpjijlebiaaFwWC1
import Derived.Test.YtokchpjijlebiaaFwWD
import Derived.Test.YtokchpjijlebiaaFwWF
import Derived.Test.YtokchpjijlebiaaFwWZ
set_option linter.all false
namespace Go.Proofs.Ytokchpjijlebiaa
open Go Go.RowKit
open Rep (rep)
open KRep (kv)
open VRep (rv)
abbrev K4e1 (e f g ac : Nat) : Env := [(e, 0), (f, 0), (g, 0), (ac, 0)]
abbrev K4c2 : List SC := [.slice none 0 0, .slice none 0 0, .slice none 0 0]
abbrev K4c3 (u : Option Addr) (a : Acts) (z : Nat) (x : Option Addr) (aa : Nat) (y : Option Addr) (ab : Nat) : List SC := [.slice u a.holds.length z, .slice x a.turns.length aa, .slice y a.spares.length ab]
abbrev K4c4 (aj : Option Addr) (x22 : Acts × Int) (ap : Nat) (ak : Option Addr) (aq : Nat) (al : Option Addr) (ar : Nat) : List SC := [.slice aj x22.1.holds.length ap, .slice ak x22.1.turns.length aq, .slice al x22.1.spares.length ar]
abbrev K4c5 (ag : Option Addr) (x79 : Acts) (am : Nat) (ah : Option Addr) (an : Nat) (ai : Option Addr) (ao : Nat) : List SC := [.slice ag x79.holds.length am, .slice ah x79.turns.length an, .slice ai x79.spares.length ao]
abbrev K4c6 (i : Option Addr) (r_ : Route) (l : Nat) (j : Option Addr) (m : Nat) (k : Option Addr) (o : Nat) : List SC := [.slice i r_.legs.length l, .int .i64 r_.turn.lo, .int .i64 r_.turn.hi, .slice j r_.buses.length m, .slice k r_.spares.length o, .int .i64 r_.unit, .int .i64 r_.gap, .int .i64 r_.fr, .int .i64 r_.to_]
abbrev K4c7 (b6 : Option Addr) (x21 : Route) (cc : Nat) (b7 : Option Addr) (cd : Nat) (b8 : Option Addr) (ce : Nat) : List SC := [.slice b6 x21.legs.length cc, .int .i64 x21.turn.lo, .int .i64 x21.turn.hi, .slice b7 x21.buses.length cd, .slice b8 x21.spares.length ce, .int .i64 x21.unit, .int .i64 x21.gap, .int .i64 x21.fr, .int .i64 x21.to_]
abbrev K4c8 (b3 : Option Addr) (x27 : Route) (b9 : Nat) (b4 : Option Addr) (ca : Nat) (b5 : Option Addr) (cb : Nat) : List SC := [.slice b3 x27.legs.length b9, .int .i64 x27.turn.lo, .int .i64 x27.turn.hi, .slice b4 x27.buses.length ca, .slice b5 x27.spares.length cb, .int .i64 x27.unit, .int .i64 x27.gap, .int .i64 x27.fr, .int .i64 x27.to_]
abbrev K4c9 (bp : Option Addr) (x33 : Route) (bv : Nat) (bq : Option Addr) (bw : Nat) (br : Option Addr) (bx : Nat) : List SC := [.slice bp x33.legs.length bv, .int .i64 x33.turn.lo, .int .i64 x33.turn.hi, .slice bq x33.buses.length bw, .slice br x33.spares.length bx, .int .i64 x33.unit, .int .i64 x33.gap, .int .i64 x33.fr, .int .i64 x33.to_]
abbrev K4c10 (bs : Option Addr) (x86 : Route) (bz : Nat) (bt : Option Addr) (b0 : Nat) (bu : Option Addr) (b1 : Nat) : List SC := [.slice bs x86.legs.length bz, .int .i64 x86.turn.lo, .int .i64 x86.turn.hi, .slice bt x86.buses.length b0, .slice bu x86.spares.length b1, .int .i64 x86.unit, .int .i64 x86.gap, .int .i64 x86.fr, .int .i64 x86.to_]
abbrev K4m11 (b : Option Addr) (x36 : (List Int) × Int) (d : Nat) (x28 : Int × Int) (x22 : Acts × Int) : TM := [(tS 9 b x36.1.length d), (tI 7 x28.1), (tI 6 x22.2), (tP 5 2 0), (tP 3 1 0), (tP 2 0 0)]
abbrev K4m12 (b : Option Addr) (x36 : (List Int) × Int) (d : Nat) : TM := [(tP 11 3 0), (tS 9 b x36.1.length d), (tP 3 1 0), (tP 2 0 0)]
abbrev K4m13 (x22 : Acts × Int) : TM := [(tI 6 x22.2), (tP 5 2 0), (tP 3 1 0), (tP 2 0 0)]
set_option maxRecDepth 100000 in
set_option maxHeartbeats 4000000 in
theorem law_ControlFewest_ok (n : Nat) {h : Heap} {w : World} (hh : Has h w) (r_ : Route) {cs_r_ : List Value} (hx_r_ : rep h r_ cs_r_) (a : Acts) {cs_a : List Value} (hx_a : rep h a cs_a) {r : Bool} (H : law_ControlFewest n r_ a = some r) :
  Calls Try.prog 4 #[.agg cs_r_.toArray, .agg cs_a.toArray] w (Ret (fun h v => v = .bool r) h w) := by
 obtain ⟨_, _, rfl, ⟨i, l, rfl, p⟩, ⟨_, _, rfl, ⟨_, _, rfl, rfl, rfl⟩, ⟨_, _, rfl, ⟨j, m, rfl, q⟩, ⟨_, _, rfl, ⟨k, o, rfl, s⟩, ⟨_, _, rfl, rfl, ⟨_, _, rfl, rfl, ⟨_, _, rfl, rfl, rfl⟩⟩⟩⟩⟩⟩⟩ := hx_r_
 obtain ⟨_, _, rfl, ⟨u, z, rfl, ad⟩, ⟨_, _, rfl, ⟨x, aa, rfl, ae⟩, ⟨y, ab, rfl, af⟩⟩⟩ := hx_a
 refine enter 117 [.agg (K4c6 i r_ l j m k o), .agg (K4c3 u a z x aa y ab)] Try.func4 rfl rfl rfl rfl fun t hk => ?_
 have hm := Mem.begin h w hh
 unfold law_ControlFewest at H
 refine wp_seq (wp_region_from (wl fun K hK => ?_))
 refine wb (.agg (K4c6 i r_ l j m k o)) hk hm fun e jd jy (gu : Kn 117 [(e, 0)] [(tP 2 0 0), (tA 0 (K4c6 i r_ l j m k o)), (tA 1 (K4c3 u a z x aa y ab))] jd) (io : Mem ⟨w, h, noX⟩ h [(e, 0)] [⟨(K4c6 i r_ l j m k o), some 28⟩] [] jy) => hK _ _ ?_
 refine wl fun K hK => ?_
 refine wb (.agg (K4c3 u a z x aa y ab)) gu io fun f jg jz (g3 : Kn 117 [(e, 0), (f, 0)] [(tP 3 1 0), (tP 2 0 0), (tA 0 (K4c6 i r_ l j m k o)), (tA 1 (K4c3 u a z x aa y ab))] jg) (da : Mem ⟨w, h, noX⟩ h [(e, 0), (f, 0)] [⟨(K4c6 i r_ l j m k o), some 28⟩, ⟨(K4c3 u a z x aa y ab), some 50⟩] [] jz) => hK _ _ ?_
 refine Rk 2 1 [(tP 3 1 0), (tP 2 0 0)] g3 da fun k2 ha => ?_
 refine wf (wp_seq (wp_seq (wp_region_from (Rk 0 2 [(tA 15 (K4c3 u a z x aa y ab)), (tA 14 (K4c6 i r_ l j m k o)), (tP 3 1 0), (tP 2 0 0)] ha da fun k3 hg => ?_))))
 obtain ⟨x16, ex16, H⟩ := bnd H
 refine wl fun K hK => ?_
 refine wc [.agg (K4c6 i r_ l j m k o), .agg (K4c3 u a z x aa y ab)] hg da (law_ready_ok n da.has r_ ((rep_pair (rep_slice p) (rep_pair (rep_pair rep_int rep_int) (rep_pair (rep_slice q) (rep_pair (rep_slice s) (rep_pair rep_int (rep_pair rep_int (rep_pair rep_int rep_int))))))) : rep h r_ _) a ((rep_pair (rep_slice ad) (rep_pair (rep_slice ae) (rep_slice af))) : rep h a _) ex16) fun l1 f3 ms fm cf ck => ?_
 replace p := p.mono cf
 replace q := q.mono cf
 replace s := s.mono cf
 replace ad := ad.mono cf
 replace ae := ae.mono cf
 replace af := af.mono cf
 obtain rfl := fm
 refine ⟨.one (.c (.bool x16)), rfl, fun jp (hv : Kn 117 [(e, 0), (f, 0)] [(tB 16 x16), (tA 15 (K4c3 u a z x aa y ab)), (tA 14 (K4c6 i r_ l j m k o)), (tP 3 1 0), (tP 2 0 0)] jp) => hK _ _ ?_⟩
 refine Rk 3 1 [(tB 17 (!x16)), (tP 3 1 0), (tP 2 0 0)] hv ck fun lc dl => ?_
 refine wf (wC ((!x16)) dl (fun dh => ?_) (fun dh => ?_))
 ·
  rw [dh, cond_true] at H
  refine wp_seq (wp_region_from ?_)
  obtain ⟨x18, ex18, H⟩ := bnd H
  refine wl fun K hK => ?_
  refine wc [] dl ck (law_awake_ok n ck.has  ex18) fun l9 kd mz fu kh et => ?_
  obtain rfl := fu
  refine ⟨.one (.c (.bool x18)), rfl, fun ju (ia : Kn 117 [(e, 0), (f, 0)] [(tB 18 x18), (tB 17 (!x16)), (tP 3 1 0), (tP 2 0 0)] ju) => hK _ _ ?_⟩
  refine Rk 1 1 [(tB 4 x18)] ia et fun lk ib => ?_
  refine wf (wp_ret ?_)
  obtain rfl := Option.some.inj H
  exact rt (.one (.c (.bool x18))) ib et rfl
 ·
  rw [dh, cond_false] at H
  refine wp_skip (wp_seq (wp_region_from (Rk 0 1 [(tA 20 (K4c6 i r_ l j m k o)), (tP 3 1 0), (tP 2 0 0)] dl ck fun ll ic => ?_)))
  obtain ⟨x21, ex21, H⟩ := bnd H
  refine wl fun K hK => ?_
  refine wc [.agg (K4c6 i r_ l j m k o)] ic ck (law_Route_ok n ck.has r_ ((rep_pair (rep_slice p) (rep_pair (rep_pair rep_int rep_int) (rep_pair (rep_slice q) (rep_pair (rep_slice s) (rep_pair rep_int (rep_pair rep_int (rep_pair rep_int rep_int))))))) : rep f3 r_ _) ex21) fun ma f4 m0 fv cg eu => ?_
  obtain ⟨_, rfl, ⟨_, _, rfl, ⟨b6, cc, rfl, i5⟩, ⟨_, _, rfl, ⟨_, _, rfl, rfl, rfl⟩, ⟨_, _, rfl, ⟨b7, cd, rfl, i6⟩, ⟨_, _, rfl, ⟨b8, ce, rfl, i7⟩, ⟨_, _, rfl, rfl, ⟨_, _, rfl, rfl, ⟨_, _, rfl, rfl, rfl⟩⟩⟩⟩⟩⟩⟩⟩ := fv
  refine ⟨.one (.agg (K4c7 b6 x21 cc b7 cd b8 ce)), rfl, fun jv (ie : Kn 117 [(e, 0), (f, 0)] [(tA 21 (K4c7 b6 x21 cc b7 cd b8 ce)), (tA 20 (K4c6 i r_ l j m k o)), (tP 3 1 0), (tP 2 0 0)] jv) => hK _ _ ?_⟩
  obtain ⟨x22, ex22, H⟩ := bnd H
  refine wl fun K hK => ?_
  refine wc [.agg (K4c7 b6 x21 cc b7 cd b8 ce)] ie eu (control_Best_ok n eu.has x21 ((rep_pair (rep_slice i5) (rep_pair (rep_pair rep_int rep_int) (rep_pair (rep_slice i6) (rep_pair (rep_slice i7) (rep_pair rep_int (rep_pair rep_int (rep_pair rep_int rep_int))))))) : rep f4 x21 _) ex22) fun mb dd m1 fw ch ev => ?_
  replace p := p.mono (Heap.le_trans cg ch)
  replace q := q.mono (Heap.le_trans cg ch)
  replace s := s.mono (Heap.le_trans cg ch)
  obtain ⟨_, _, rfl, ⟨_, rfl, ⟨_, _, rfl, ⟨aj, ap, rfl, aw⟩, ⟨_, _, rfl, ⟨ak, aq, rfl, ax⟩, ⟨al, ar, rfl, ay⟩⟩⟩⟩, rfl⟩ := fw
  refine ⟨.tup [.agg (K4c4 aj x22 ap ak aq al ar), .c (.int .i64 x22.2)], rfl, fun jw (ig : Kn 117 [(e, 0), (f, 0)] [(22, .tup [.agg (K4c4 aj x22 ap ak aq al ar), .c (.int .i64 x22.2)]), (tA 21 (K4c7 b6 x21 cc b7 cd b8 ce)), (tA 20 (K4c6 i r_ l j m k o)), (tP 3 1 0), (tP 2 0 0)] jw) => hK _ _ ?_⟩
  refine Rk 3 3 [(tI 24 x22.2), (tA 23 (K4c4 aj x22 ap ak aq al ar)), (tP 3 1 0), (tP 2 0 0)] ig ev fun lm ih => ?_
  refine wl fun K hK => ?_
  refine wa K4c2 ih ev fun g jx j2 (ii : Kn 117 [(e, 0), (f, 0), (g, 0)] [(tP 5 2 0), (tI 24 x22.2), (tA 23 (K4c4 aj x22 ap ak aq al ar)), (tP 3 1 0), (tP 2 0 0)] jx) (iu : Mem ⟨w, h, noX⟩ dd [(e, 0), (f, 0), (g, 0)] [⟨(K4c6 i r_ l j m k o), some 28⟩, ⟨(K4c3 u a z x aa y ab), some 50⟩, ⟨K4c2, some 34⟩] [] j2) => hK _ _ ?_
  refine wl fun K hK => ?_
  refine wst 2 0 (.agg (K4c4 aj x22 ap ak aq al ar)) (K4c4 aj x22 ap ak aq al ar) ii iu fun j3 ij (db : Mem ⟨w, h, noX⟩ dd [(e, 0), (f, 0), (g, 0)] [⟨(K4c6 i r_ l j m k o), some 28⟩, ⟨(K4c3 u a z x aa y ab), some 50⟩, ⟨(K4c4 aj x22 ap ak aq al ar), some 34⟩] [] j3) => hK _ _ ?_
  refine Rk 8 1 (K4m13 x22) ij db fun ki f5 => ?_
  refine wf (wp_seq (wp_region_from (Rk 0 1 ((tA 26 (K4c6 i r_ l j m k o)) :: (K4m13 x22)) f5 db fun kj f6 => ?_)))
  obtain ⟨x27, ex27, H⟩ := bnd H
  refine wl fun K hK => ?_
  refine wc [.agg (K4c6 i r_ l j m k o)] f6 db (law_Route_ok n db.has r_ ((rep_pair (rep_slice p) (rep_pair (rep_pair rep_int rep_int) (rep_pair (rep_slice q) (rep_pair (rep_slice s) (rep_pair rep_int (rep_pair rep_int (rep_pair rep_int rep_int))))))) : rep dd r_ _) ex27) fun ln fx mc e9 bi ep => ?_
  obtain ⟨_, rfl, ⟨_, _, rfl, ⟨b3, b9, rfl, iv⟩, ⟨_, _, rfl, ⟨_, _, rfl, rfl, rfl⟩, ⟨_, _, rfl, ⟨b4, ca, rfl, iw⟩, ⟨_, _, rfl, ⟨b5, cb, rfl, ix⟩, ⟨_, _, rfl, rfl, ⟨_, _, rfl, rfl, ⟨_, _, rfl, rfl, rfl⟩⟩⟩⟩⟩⟩⟩⟩ := e9
  refine ⟨.one (.agg (K4c8 b3 x27 b9 b4 ca b5 cb)), rfl, fun i8 (f7 : Kn 117 [(e, 0), (f, 0), (g, 0)] ((tA 27 (K4c8 b3 x27 b9 b4 ca b5 cb)) :: (tA 26 (K4c6 i r_ l j m k o)) :: (K4m13 x22)) i8) => hK _ _ ?_⟩
  obtain ⟨x28, ex28, H⟩ := bnd H
  refine wl fun K hK => ?_
  refine wc [.agg (K4c8 b3 x27 b9 b4 ca b5 cb)] f7 ep (control_Least_ok n ep.has x27 ((rep_pair (rep_slice iv) (rep_pair (rep_pair rep_int rep_int) (rep_pair (rep_slice iw) (rep_pair (rep_slice ix) (rep_pair rep_int (rep_pair rep_int (rep_pair rep_int rep_int))))))) : rep fx x27 _) ex28) fun lp fy md fa bj ci => ?_
  replace p := p.mono (Heap.le_trans bi bj)
  replace q := q.mono (Heap.le_trans bi bj)
  replace s := s.mono (Heap.le_trans bi bj)
  obtain ⟨_, _, rfl, rfl, rfl⟩ := fa
  refine ⟨.tup [.c (.int .i64 x28.1), .c (.int .i64 x28.2)], rfl, fun i9 (f8 : Kn 117 [(e, 0), (f, 0), (g, 0)] ((28, .tup [.c (.int .i64 x28.1), .c (.int .i64 x28.2)]) :: (tA 27 (K4c8 b3 x27 b9 b4 ca b5 cb)) :: (tA 26 (K4c6 i r_ l j m k o)) :: (K4m13 x22)) i9) => hK _ _ ?_⟩
  refine Rk 3 5 ((tI 8 x28.2) :: (tI 7 x28.1) :: (K4m13 x22)) f8 ci fun kk f9 => ?_
  refine wf (wp_seq (wp_region_G (by kernel_rfl) ?_))
  replace ci := ci.drew
  refine wpG_of_D [] [(e, 0), (f, 0), (g, 0)] [⟨(K4c6 i r_ l j m k o), some 28⟩, ⟨(K4c3 u a z x aa y ab), some 50⟩, ⟨(K4c4 aj x22 ap ak aq al ar), some 34⟩] ?_
  refine Dr [0, 2] [2, 0] ((tA 34 (K4c3 u a z x aa y ab)) :: (tA 32 (K4c6 i r_ l j m k o)) :: (tI 8 x28.2) :: (tI 7 x28.1) :: (K4m13 x22)) f9 ci fun kl ga => ?_
  obtain ⟨x33, ex33, H⟩ := bnd H
  refine Dl 1 fun K hK => ?_
  refine wc [.agg (K4c6 i r_ l j m k o)] ga ci (law_Route_ok n ci.has r_ ((rep_pair (rep_slice p) (rep_pair (rep_pair rep_int rep_int) (rep_pair (rep_slice q) (rep_pair (rep_slice s) (rep_pair rep_int (rep_pair rep_int (rep_pair rep_int rep_int))))))) : rep fy r_ _) ex33) fun lq fz me fb bk dm => ?_
  replace ad := ad.mono (Heap.le_trans (Heap.le_trans (Heap.le_trans (Heap.le_trans cg ch) bi) bj) bk)
  replace ae := ae.mono (Heap.le_trans (Heap.le_trans (Heap.le_trans (Heap.le_trans cg ch) bi) bj) bk)
  replace af := af.mono (Heap.le_trans (Heap.le_trans (Heap.le_trans (Heap.le_trans cg ch) bi) bj) bk)
  obtain ⟨_, rfl, ⟨_, _, rfl, ⟨bp, bv, rfl, dw⟩, ⟨_, _, rfl, ⟨_, _, rfl, rfl, rfl⟩, ⟨_, _, rfl, ⟨bq, bw, rfl, dx⟩, ⟨_, _, rfl, ⟨br, bx, rfl, dy⟩, ⟨_, _, rfl, rfl, ⟨_, _, rfl, rfl, ⟨_, _, rfl, rfl, rfl⟩⟩⟩⟩⟩⟩⟩⟩ := fb
  refine ⟨.one (.agg (K4c9 bp x33 bv bq bw br bx)), rfl, fun ja (gb : Kn 117 [(e, 0), (f, 0), (g, 0)] ((tA 33 (K4c9 bp x33 bv bq bw br bx)) :: (tA 34 (K4c3 u a z x aa y ab)) :: (tA 32 (K4c6 i r_ l j m k o)) :: (tI 8 x28.2) :: (tI 7 x28.1) :: (K4m13 x22)) ja) => hK _ _ dm.plOk ?_⟩
  obtain ⟨x35, ex35, H⟩ := bnd H
  refine Dl 3 fun K hK => ?_
  refine wc [.agg (K4c3 u a z x aa y ab)] gb dm (law_Acts_ok n dm.has a ((rep_pair (rep_slice ad) (rep_pair (rep_slice ae) (rep_slice af))) : rep fz a _) ex35) fun lr d4 mf fc a7 dp => ?_
  replace dw := dw.mono a7
  replace dx := dx.mono a7
  replace dy := dy.mono a7
  obtain ⟨_, rfl, ⟨_, _, rfl, ⟨cx, c3, rfl, iy⟩, ⟨_, _, rfl, ⟨cy, c4, rfl, iz⟩, ⟨cz, c5, rfl, i0⟩⟩⟩⟩ := fc
  refine ⟨.one (.agg [.slice cx x35.holds.length c3, .slice cy x35.turns.length c4, .slice cz x35.spares.length c5]), rfl, fun jb (gc : Kn 117 [(e, 0), (f, 0), (g, 0)] ((tA 35 [.slice cx x35.holds.length c3, .slice cy x35.turns.length c4, .slice cz x35.spares.length c5]) :: (tA 33 (K4c9 bp x33 bv bq bw br bx)) :: (tA 34 (K4c3 u a z x aa y ab)) :: (tA 32 (K4c6 i r_ l j m k o)) :: (tI 8 x28.2) :: (tI 7 x28.1) :: (K4m13 x22)) jb) => hK _ _ dp.plOk ?_⟩
  obtain ⟨x36, ex36, H⟩ := bnd H
  refine Dl 4 fun K hK => ?_
  refine wc [.agg (K4c9 bp x33 bv bq bw br bx), .agg [.slice cx x35.holds.length c3, .slice cy x35.turns.length c4, .slice cz x35.spares.length c5]] gc dp (control_Worst_ok n dp.has x33 ((rep_pair (rep_slice dw) (rep_pair (rep_pair rep_int rep_int) (rep_pair (rep_slice dx) (rep_pair (rep_slice dy) (rep_pair rep_int (rep_pair rep_int (rep_pair rep_int rep_int))))))) : rep d4 x33 _) x35 ((rep_pair (rep_slice iy) (rep_pair (rep_slice iz) (rep_slice i0))) : rep d4 x35 _) ex36) fun ls f0 mg fd bl au => ?_
  replace p := p.mono (Heap.le_trans (Heap.le_trans bk a7) bl)
  replace q := q.mono (Heap.le_trans (Heap.le_trans bk a7) bl)
  replace s := s.mono (Heap.le_trans (Heap.le_trans bk a7) bl)
  replace ad := ad.mono (Heap.le_trans a7 bl)
  replace ae := ae.mono (Heap.le_trans a7 bl)
  replace af := af.mono (Heap.le_trans a7 bl)
  replace aw := aw.mono (Heap.le_trans (Heap.le_trans (Heap.le_trans (Heap.le_trans bi bj) bk) a7) bl)
  replace ax := ax.mono (Heap.le_trans (Heap.le_trans (Heap.le_trans (Heap.le_trans bi bj) bk) a7) bl)
  replace ay := ay.mono (Heap.le_trans (Heap.le_trans (Heap.le_trans (Heap.le_trans bi bj) bk) a7) bl)
  obtain ⟨_, _, rfl, ⟨b, d, rfl, ba⟩, rfl⟩ := fd
  refine ⟨.tup [.c (.slice b x36.1.length d), .c (.int .i64 x36.2)], rfl, fun jc (gd : Kn 117 [(e, 0), (f, 0), (g, 0)] ((36, .tup [.c (.slice b x36.1.length d), .c (.int .i64 x36.2)]) :: (tA 35 [.slice cx x35.holds.length c3, .slice cy x35.turns.length c4, .slice cz x35.spares.length c5]) :: (tA 33 (K4c9 bp x33 bv bq bw br bx)) :: (tA 34 (K4c3 u a z x aa y ab)) :: (tA 32 (K4c6 i r_ l j m k o)) :: (tI 8 x28.2) :: (tI 7 x28.1) :: (K4m13 x22)) jc) => hK _ _ au.plOk ?_⟩
  refine Dr [5, 6, 7, 8, 9] [9, 8, 7, 6, 5, 4, 3, 1, 2, 0] ((tI 10 x36.2) :: (tS 9 b x36.1.length d) :: (tI 8 x28.2) :: (tI 7 x28.1) :: (K4m13 x22)) gd au fun km gf => ?_
  refine wpD_end (by kernel_rfl) (wp_seq (wp_seq ?_))
  obtain ⟨ew, av, H⟩ := bnd H
  refine wp_mid' (fun a' w' => ∃ (d2 : Array Value) (cm : Heap), a' = ⟨d2, []⟩ ∧ Kn 117 [(e, 0), (f, 0), (g, 0)] [(tS 9 b x36.1.length d), (tI 6 x22.2), (tP 5 2 0), (tP 3 1 0), (tP 2 0 0), (tB 67 ew)] d2 ∧ Mem ⟨w, h, noX⟩ cm [(e, 0), (f, 0), (g, 0)] [⟨(K4c6 i r_ l j m k o), some 28⟩, ⟨(K4c3 u a z x aa y ab), some 50⟩, ⟨(K4c4 aj x22 ap ak aq al ar), some 34⟩] [] w' ∧ Heap.le f0 cm) ?_ ?_
  ·
   refine wp_region_from (Rk 0 3 ((tB 41 (x28.2 != 0)) :: (tI 10 x36.2) :: (K4m11 b x36 d x28 x22)) gf au fun ey d7 => ?_)
   rcases Bool.eq_false_or_eq_true ((x28.2 != 0)) with cn | cn
   ·
    rw [cn, cond_true] at av
    have gg : Kn 117 [(e, 0), (f, 0), (g, 0)] ((tB 41 true) :: (tI 10 x36.2) :: (K4m11 b x36 d x28 x22)) ey := (d7.setB 41 true (by rfl) cn).kp
    refine Rk 3 26 ((tB 67 true) :: (tS 9 b x36.1.length d) :: (K4m13 x22)) gg au fun kn gh => ?_
    refine wf ?_
    obtain rfl := Option.some.inj av
    exact Exists.intro _ ⟨_, rfl, gh.kp, au, (Heap.le_refl _)⟩
   ·
    rw [cn, cond_false] at av
    have gi : Kn 117 [(e, 0), (f, 0), (g, 0)] ((tB 41 false) :: (tI 10 x36.2) :: (K4m11 b x36 d x28 x22)) ey := (d7.setB 41 false (by rfl) cn).kp
    refine Rk 3 4 ((tB 45 (x36.2 != 0)) :: (K4m11 b x36 d x28 x22)) gi au fun ez d8 => ?_
    rcases Bool.eq_false_or_eq_true ((x36.2 != 0)) with co | co
    ·
     rw [co, cond_true] at av
     have gj : Kn 117 [(e, 0), (f, 0), (g, 0)] ((tB 45 true) :: (K4m11 b x36 d x28 x22)) ez := (d8.setB 45 true (by rfl) co).kp
     refine Rk 7 22 ((tB 67 true) :: (tS 9 b x36.1.length d) :: (K4m13 x22)) gj au fun ko gk => ?_
     refine wf ?_
     obtain rfl := Option.some.inj av
     exact Exists.intro _ ⟨_, rfl, gk.kp, au, (Heap.le_refl _)⟩
    ·
     rw [co, cond_false] at av
     have gl : Kn 117 [(e, 0), (f, 0), (g, 0)] ((tB 45 false) :: (K4m11 b x36 d x28 x22)) ez := (d8.setB 45 false (by rfl) co).kp
     refine Rk 7 9 ((tB 54 (!((x22.2 == 0) == (decide (r_.gap ≥ x28.1))))) :: (K4m11 b x36 d x28 x22)) gl au fun e0 d9 => ?_
     rcases Bool.eq_false_or_eq_true ((!((x22.2 == 0) == (decide (r_.gap ≥ x28.1))))) with cp | cp
     ·
      rw [cp, cond_true] at av
      have gm : Kn 117 [(e, 0), (f, 0), (g, 0)] ((tB 54 true) :: (K4m11 b x36 d x28 x22)) e0 := (d9.setB 54 true (by rfl) cp).kp
      refine Rk 16 13 ((tB 67 true) :: (tS 9 b x36.1.length d) :: (K4m13 x22)) gm au fun kq gn => ?_
      refine wf ?_
      obtain rfl := Option.some.inj av
      exact Exists.intro _ ⟨_, rfl, gn.kp, au, (Heap.le_refl _)⟩
     ·
      rw [cp, cond_false] at av
      have go : Kn 117 [(e, 0), (f, 0), (g, 0)] ((tB 54 false) :: (K4m11 b x36 d x28 x22)) e0 := (d9.setB 54 false (by rfl) cp).kp
      refine Rk 16 3 ((tB 57 (x22.2 != 0)) :: (tB 54 false) :: (K4m11 b x36 d x28 x22)) go au fun e1 ea => ?_
      rcases Bool.eq_false_or_eq_true ((x22.2 != 0)) with cq | cq
      ·
       rw [cq, cond_true] at av
       have gp : Kn 117 [(e, 0), (f, 0), (g, 0)] ((tB 57 true) :: (tB 54 false) :: (K4m11 b x36 d x28 x22)) e1 := (ea.setB 57 true (by rfl) cq).kp
       refine Rk 19 5 ((tB 62 (x22.2 != 9)) :: (K4m11 b x36 d x28 x22)) gp au fun e2 eb => ?_
       rcases Bool.eq_false_or_eq_true ((x22.2 != 9)) with cr | cr
       ·
        rw [cr, cond_true] at av
        have gq : Kn 117 [(e, 0), (f, 0), (g, 0)] ((tB 62 true) :: (K4m11 b x36 d x28 x22)) e2 := (eb.setB 62 true (by rfl) cr).kp
        refine Rk 24 5 ((tB 67 true) :: (tS 9 b x36.1.length d) :: (K4m13 x22)) gq au fun kr gr => ?_
        refine wf ?_
        obtain rfl := Option.some.inj av
        exact Exists.intro _ ⟨_, rfl, gr.kp, au, (Heap.le_refl _)⟩
       ·
        rw [cr, cond_false] at av
        have gs : Kn 117 [(e, 0), (f, 0), (g, 0)] ((tB 62 false) :: (K4m11 b x36 d x28 x22)) e2 := (eb.setB 62 false (by rfl) cr).kp
        refine Rk 24 1 ((tS 63 b x36.1.length d) :: (tB 62 false) :: (K4m11 b x36 d x28 x22)) gs au fun ks ec => ?_
        obtain ⟨x64, ex64, av⟩ := bnd av
        refine wpFrom_loud _ rfl (wantedS_sound ec (by kernel_rfl)) fun K hK => ?_
        refine wc [.c (.slice b x36.1.length d)] ec au (law_greatest_ok n au.has x36.1 ba ex64) fun lu j4 mh fe ik er => ?_
        obtain rfl := fe
        refine ⟨.one (.c (.int .i64 x64)), rfl, fun je (gv : Kn 117 [(e, 0), (f, 0), (g, 0)] ((tI 64 x64) :: (tS 63 b x36.1.length d) :: (tB 62 false) :: (K4m11 b x36 d x28 x22)) je) => hK _ _ ?_⟩
        refine Rk 26 3 ((tB 67 (decide (x64 < x28.1))) :: (tS 9 b x36.1.length d) :: (K4m13 x22)) gv er fun kt gw => ?_
        refine wf ?_
        obtain rfl := Option.some.inj av
        exact Exists.intro _ ⟨_, rfl, gw.kp, er, ik⟩
      ·
       rw [cq, cond_false] at av
       have gx : Kn 117 [(e, 0), (f, 0), (g, 0)] ((tB 57 false) :: (tB 54 false) :: (K4m11 b x36 d x28 x22)) e1 := (ea.setB 57 false (by rfl) cq).kp
       refine Rk 19 6 ((tS 63 b x36.1.length d) :: (tB 62 false) :: (K4m11 b x36 d x28 x22)) gx au fun ku ed => ?_
       obtain ⟨x64, ex64, av⟩ := bnd av
       refine wpFrom_loud _ rfl (wantedS_sound ed (by kernel_rfl)) fun K hK => ?_
       refine wc [.c (.slice b x36.1.length d)] ed au (law_greatest_ok n au.has x36.1 ba ex64) fun lv j5 mi ff il es => ?_
       obtain rfl := ff
       refine ⟨.one (.c (.int .i64 x64)), rfl, fun jf (gy : Kn 117 [(e, 0), (f, 0), (g, 0)] ((tI 64 x64) :: (tS 63 b x36.1.length d) :: (tB 62 false) :: (K4m11 b x36 d x28 x22)) jf) => hK _ _ ?_⟩
       refine Rk 26 3 ((tB 67 (decide (x64 < x28.1))) :: (tS 9 b x36.1.length d) :: (K4m13 x22)) gy es fun kv gz => ?_
       refine wf ?_
       obtain rfl := Option.some.inj av
       exact Exists.intro _ ⟨_, rfl, gz.kp, es, il⟩
  ·
   rintro _ mj ⟨d2, cm, rfl, di, bc, bd⟩
   replace p := p.mono bd
   replace q := q.mono bd
   replace s := s.mono bd
   replace ad := ad.mono bd
   replace ae := ae.mono bd
   replace af := af.mono bd
   replace aw := aw.mono bd
   replace ax := ax.mono bd
   replace ay := ay.mono bd
   replace ba := ba.mono bd
   refine wC (ew) di (fun de => ?_) (fun de => ?_)
   ·
    rw [de, cond_true] at H
    refine wp_seq (wp_region_from (Rk 0 1 [(tB 4 false)] di bc fun kw g0 => ?_))
    refine wf (wp_ret ?_)
    obtain rfl := Option.some.inj H
    exact rt (.one (.c (.bool false))) g0 bc rfl
   ·
    rw [de, cond_false] at H
    refine wp_skip (wp_seq (wp_seq (wp_region_from (Rk 0 2 [(tB 69 (x22.2 != 0)), (tS 9 b x36.1.length d), (tP 5 2 0), (tP 3 1 0), (tP 2 0 0)] di bc fun kx dj => ?_))))
    refine wf (wC ((x22.2 != 0)) dj (fun df => ?_) (fun df => ?_))
    ·
     rw [df, cond_true] at H
     refine wp_seq ?_
     obtain ⟨ex, bm, H⟩ := bnd H
     refine wp_mid' (fun a' w' => ∃ (d3 : Array Value) (dc : Heap), a' = ⟨d3, []⟩ ∧ Kn 117 [(e, 0), (f, 0), (g, 0)] [(tB 4 ex)] d3 ∧ Mem ⟨w, h, noX⟩ dc [(e, 0), (f, 0), (g, 0)] [⟨(K4c6 i r_ l j m k o), some 28⟩, ⟨(K4c3 u a z x aa y ab), some 50⟩, ⟨(K4c4 aj x22 ap ak aq al ar), some 34⟩] [] w' ∧ Heap.le cm dc) ?_ ?_
     ·
      refine wp_region_G (by kernel_rfl) ?_
      replace bc := bc.drew
      refine wpG_of_D [] [(e, 0), (f, 0), (g, 0)] [⟨(K4c6 i r_ l j m k o), some 28⟩, ⟨(K4c3 u a z x aa y ab), some 50⟩, ⟨(K4c4 aj x22 ap ak aq al ar), some 34⟩] ?_
      refine Dr [0, 2, 3] [3, 2, 0] [(tI 73 r_.gap), (tS 70 b x36.1.length d)] dj bc fun ky g1 => ?_
      obtain ⟨x71, ex71, bm⟩ := bnd bm
      refine Dl 1 fun K hK => ?_
      refine wc [.c (.slice b x36.1.length d)] g1 bc (law_greatest_ok n bc.has x36.1 ba ex71) fun lw j6 ml fg bb cj => ?_
      replace p := p.mono bb
      replace q := q.mono bb
      replace s := s.mono bb
      replace ad := ad.mono bb
      replace ae := ae.mono bb
      replace af := af.mono bb
      replace aw := aw.mono bb
      replace ax := ax.mono bb
      replace ay := ay.mono bb
      obtain rfl := fg
      refine ⟨.one (.c (.int .i64 x71)), rfl, fun jh (g2 : Kn 117 [(e, 0), (f, 0), (g, 0)] [(tI 71 x71), (tI 73 r_.gap), (tS 70 b x36.1.length d)] jh) => hK _ _ cj.plOk ?_⟩
      refine Dr [4, 5] [5, 4, 1, 3, 2, 0] [(tB 75 (decide (x71 > r_.gap)))] g2 cj fun e3 ee => ?_
      rcases Bool.eq_false_or_eq_true (decide (x71 > r_.gap)) with cs | cs
      ·
       rw [cs, cond_true] at bm
       have ef : Kn 117 [(e, 0), (f, 0), (g, 0)] [(tB 75 true)] e3 := (ee.setB 75 true (by rfl) cs).kp
       obtain ⟨x76, ex76, bm⟩ := bnd bm
       refine D_loud 6 rfl (by kernel_rfl) (by decide) (wantedS_sound ef (by kernel_rfl)) fun K hK => ?_
       refine wc [] ef cj (law_awake_ok n cj.has  ex76) fun lx j7 mm fh im dq => ?_
       obtain rfl := fh
       refine ⟨.one (.c (.bool x76)), rfl, fun ji (g4 : Kn 117 [(e, 0), (f, 0), (g, 0)] [(tB 76 x76), (tB 75 true)] ji) => hK _ _ dq.plOk ?_⟩
       refine Dr [7, 8] [8, 7, 6, 5, 4, 1, 3, 2, 0] [(tB 4 x76)] g4 dq fun kz g5 => ?_
       refine wpD_end (by kernel_rfl) ?_
       obtain rfl := Option.some.inj bm
       exact Exists.intro _ ⟨_, rfl, g5.kp, dq, (Heap.le_trans bb im)⟩
      ·
       rw [cs, cond_false] at bm
       have g6 : Kn 117 [(e, 0), (f, 0), (g, 0)] [(tB 75 false)] e3 := (ee.setB 75 false (by rfl) cs).kp
       refine Dr [6, 7, 8] [8, 7, 6, 5, 4, 1, 3, 2, 0] [(tB 4 false)] g6 cj fun k0 g7 => ?_
       refine wpD_end (by kernel_rfl) ?_
       obtain rfl := Option.some.inj bm
       exact Exists.intro _ ⟨_, rfl, g7.kp, cj, bb⟩
     ·
      rintro _ mn ⟨d3, dc, rfl, g8, ip, ke⟩
      refine wp_ret ?_
      obtain rfl := Option.some.inj H
      exact rt (.one (.c (.bool ex))) g8 ip rfl
    ·
     rw [df, cond_false] at H
     refine wp_skip (wp_seq (wp_region_from (Rk 0 1 [(tA 78 (K4c4 aj x22 ap ak aq al ar)), (tS 9 b x36.1.length d), (tP 3 1 0), (tP 2 0 0)] dj bc fun k1 g9 => ?_)))
     obtain ⟨x79, ex79, H⟩ := bnd H
     refine wl fun K hK => ?_
     refine wc [.agg (K4c4 aj x22 ap ak aq al ar)] g9 bc (law_Back_ok n bc.has (Acts.mk x22.1.holds x22.1.turns x22.1.spares) ((rep_pair (rep_slice aw) (rep_pair (rep_slice ax) (rep_slice ay))) : rep cm (Acts.mk x22.1.holds x22.1.turns x22.1.spares) _) ex79) fun ly c9 mo fi be iq => ?_
     replace p := p.mono be
     replace q := q.mono be
     replace s := s.mono be
     obtain ⟨_, rfl, ⟨_, _, rfl, ⟨ag, am, rfl, a0⟩, ⟨_, _, rfl, ⟨ah, an, rfl, a1⟩, ⟨ai, ao, rfl, a2⟩⟩⟩⟩ := fi
     refine ⟨.one (.agg (K4c5 ag x79 am ah an ai ao)), rfl, fun jj (hb : Kn 117 [(e, 0), (f, 0), (g, 0)] [(tA 79 (K4c5 ag x79 am ah an ai ao)), (tA 78 (K4c4 aj x22 ap ak aq al ar)), (tS 9 b x36.1.length d), (tP 3 1 0), (tP 2 0 0)] jj) => hK _ _ ?_⟩
     refine wl fun K hK => ?_
     refine wa K4c2 hb iq fun ac e4 j0 (hc : Kn 117 (K4e1 e f g ac) [(tP 11 3 0), (tA 79 (K4c5 ag x79 am ah an ai ao)), (tA 78 (K4c4 aj x22 ap ak aq al ar)), (tS 9 b x36.1.length d), (tP 3 1 0), (tP 2 0 0)] e4) (ir : Mem ⟨w, h, noX⟩ c9 (K4e1 e f g ac) [⟨(K4c6 i r_ l j m k o), some 28⟩, ⟨(K4c3 u a z x aa y ab), some 50⟩, ⟨(K4c4 aj x22 ap ak aq al ar), some 34⟩, ⟨K4c2, some 50⟩] [] j0) => hK _ _ ?_
     refine wl fun K hK => ?_
     refine wst 3 0 (.agg (K4c5 ag x79 am ah an ai ao)) (K4c5 ag x79 am ah an ai ao) hc ir fun j1 hd (dr : Mem ⟨w, h, noX⟩ c9 (K4e1 e f g ac) [⟨(K4c6 i r_ l j m k o), some 28⟩, ⟨(K4c3 u a z x aa y ab), some 50⟩, ⟨(K4c4 aj x22 ap ak aq al ar), some 34⟩, ⟨(K4c5 ag x79 am ah an ai ao), some 50⟩] [] j1) => hK _ _ ?_
     have he : Kn 117 (K4e1 e f g ac) (K4m12 b x36 d) e4 := hd.kp
     refine wf (wp_seq (wp_seq (wp_region_from (Rk 0 2 ((tA 81 (K4c5 ag x79 am ah an ai ao)) :: (tA 80 (K4c6 i r_ l j m k o)) :: (K4m12 b x36 d)) he dr fun k4 hf => ?_))))
     obtain ⟨x82, ex82, H⟩ := bnd H
     refine wl fun K hK => ?_
     refine wc [.agg (K4c6 i r_ l j m k o), .agg (K4c5 ag x79 am ah an ai ao)] hf dr (ref_AreActs_ok n dr.has r_ ((rep_pair (rep_slice p) (rep_pair (rep_pair rep_int rep_int) (rep_pair (rep_slice q) (rep_pair (rep_slice s) (rep_pair rep_int (rep_pair rep_int (rep_pair rep_int rep_int))))))) : rep c9 r_ _) x79 ((rep_pair (rep_slice a0) (rep_pair (rep_slice a1) (rep_slice a2))) : rep c9 x79 _) ex82) fun lz f1 mp fj a3 bn => ?_
     replace p := p.mono a3
     replace q := q.mono a3
     replace s := s.mono a3
     replace ad := ad.mono (Heap.le_trans be a3)
     replace ae := ae.mono (Heap.le_trans be a3)
     replace af := af.mono (Heap.le_trans be a3)
     replace aw := aw.mono (Heap.le_trans be a3)
     replace ax := ax.mono (Heap.le_trans be a3)
     replace ay := ay.mono (Heap.le_trans be a3)
     replace ba := ba.mono (Heap.le_trans be a3)
     replace a0 := a0.mono a3
     replace a1 := a1.mono a3
     replace a2 := a2.mono a3
     obtain rfl := fj
     refine ⟨.one (.c (.bool x82)), rfl, fun jk (hj : Kn 117 (K4e1 e f g ac) ((tB 82 x82) :: (tA 81 (K4c5 ag x79 am ah an ai ao)) :: (tA 80 (K4c6 i r_ l j m k o)) :: (K4m12 b x36 d)) jk) => hK _ _ ?_⟩
     refine Rk 3 1 ((tB 83 (!x82)) :: (K4m12 b x36 d)) hj bn fun k5 dk => ?_
     refine wf (wC ((!x82)) dk (fun dg => ?_) (fun dg => ?_))
     ·
      rw [dg, cond_true] at H
      refine wp_seq (wp_region_from (Rk 0 1 [(tB 4 false)] dk bn fun k6 hl => ?_))
      refine wf (wp_ret ?_)
      obtain rfl := Option.some.inj H
      exact rt (.one (.c (.bool false))) hl bn rfl
     ·
      rw [dg, cond_false] at H
      refine wp_skip (wp_seq (wp_region_G (by kernel_rfl) ?_))
      replace bn := bn.drew
      refine wpG_of_D [] (K4e1 e f g ac) [⟨(K4c6 i r_ l j m k o), some 28⟩, ⟨(K4c3 u a z x aa y ab), some 50⟩, ⟨(K4c4 aj x22 ap ak aq al ar), some 34⟩, ⟨(K4c5 ag x79 am ah an ai ao), some 50⟩] ?_
      refine Dr [0, 2] [2, 0] ((tA 87 (K4c5 ag x79 am ah an ai ao)) :: (tA 85 (K4c6 i r_ l j m k o)) :: (K4m12 b x36 d)) dk bn fun k7 hn => ?_
      obtain ⟨x86, ex86, H⟩ := bnd H
      refine Dl 1 fun K hK => ?_
      refine wc [.agg (K4c6 i r_ l j m k o)] hn bn (law_Route_ok n bn.has r_ ((rep_pair (rep_slice p) (rep_pair (rep_pair rep_int rep_int) (rep_pair (rep_slice q) (rep_pair (rep_slice s) (rep_pair rep_int (rep_pair rep_int (rep_pair rep_int rep_int))))))) : rep f1 r_ _) ex86) fun l0 f2 mq fk a4 ds => ?_
      replace a0 := a0.mono a4
      replace a1 := a1.mono a4
      replace a2 := a2.mono a4
      obtain ⟨_, rfl, ⟨_, _, rfl, ⟨bs, bz, rfl, dz⟩, ⟨_, _, rfl, ⟨_, _, rfl, rfl, rfl⟩, ⟨_, _, rfl, ⟨bt, b0, rfl, d0⟩, ⟨_, _, rfl, ⟨bu, b1, rfl, d1⟩, ⟨_, _, rfl, rfl, ⟨_, _, rfl, rfl, ⟨_, _, rfl, rfl, rfl⟩⟩⟩⟩⟩⟩⟩⟩ := fk
      refine ⟨.one (.agg (K4c10 bs x86 bz bt b0 bu b1)), rfl, fun jl (ho : Kn 117 (K4e1 e f g ac) ((tA 86 (K4c10 bs x86 bz bt b0 bu b1)) :: (tA 87 (K4c5 ag x79 am ah an ai ao)) :: (tA 85 (K4c6 i r_ l j m k o)) :: (K4m12 b x36 d)) jl) => hK _ _ ds.plOk ?_⟩
      obtain ⟨x88, ex88, H⟩ := bnd H
      refine Dl 3 fun K hK => ?_
      refine wc [.agg (K4c5 ag x79 am ah an ai ao)] ho ds (law_Acts_ok n ds.has x79 ((rep_pair (rep_slice a0) (rep_pair (rep_slice a1) (rep_slice a2))) : rep f2 x79 _) ex88) fun l2 d5 mr fl az dt => ?_
      replace dz := dz.mono az
      replace d0 := d0.mono az
      replace d1 := d1.mono az
      obtain ⟨_, rfl, ⟨_, _, rfl, ⟨c0, c6, rfl, i1⟩, ⟨_, _, rfl, ⟨c1, c7, rfl, i2⟩, ⟨c2, c8, rfl, i3⟩⟩⟩⟩ := fl
      refine ⟨.one (.agg [.slice c0 x88.holds.length c6, .slice c1 x88.turns.length c7, .slice c2 x88.spares.length c8]), rfl, fun jm (hp : Kn 117 (K4e1 e f g ac) ((tA 88 [.slice c0 x88.holds.length c6, .slice c1 x88.turns.length c7, .slice c2 x88.spares.length c8]) :: (tA 86 (K4c10 bs x86 bz bt b0 bu b1)) :: (tA 87 (K4c5 ag x79 am ah an ai ao)) :: (tA 85 (K4c6 i r_ l j m k o)) :: (K4m12 b x36 d)) jm) => hK _ _ dt.plOk ?_⟩
      obtain ⟨x89, ex89, H⟩ := bnd H
      refine Dl 4 fun K hK => ?_
      refine wc [.agg (K4c10 bs x86 bz bt b0 bu b1), .agg [.slice c0 x88.holds.length c6, .slice c1 x88.turns.length c7, .slice c2 x88.spares.length c8]] hp dt (control_Worst_ok n dt.has x86 ((rep_pair (rep_slice dz) (rep_pair (rep_pair rep_int rep_int) (rep_pair (rep_slice d0) (rep_pair (rep_slice d1) (rep_pair rep_int (rep_pair rep_int (rep_pair rep_int rep_int))))))) : rep d5 x86 _) x88 ((rep_pair (rep_slice i1) (rep_pair (rep_slice i2) (rep_slice i3))) : rep d5 x88 _) ex89) fun l3 j8 mt fn a5 bf => ?_
      replace p := p.mono (Heap.le_trans (Heap.le_trans a4 az) a5)
      replace q := q.mono (Heap.le_trans (Heap.le_trans a4 az) a5)
      replace s := s.mono (Heap.le_trans (Heap.le_trans a4 az) a5)
      replace ad := ad.mono (Heap.le_trans (Heap.le_trans a4 az) a5)
      replace ae := ae.mono (Heap.le_trans (Heap.le_trans a4 az) a5)
      replace af := af.mono (Heap.le_trans (Heap.le_trans a4 az) a5)
      replace aw := aw.mono (Heap.le_trans (Heap.le_trans a4 az) a5)
      replace ax := ax.mono (Heap.le_trans (Heap.le_trans a4 az) a5)
      replace ay := ay.mono (Heap.le_trans (Heap.le_trans a4 az) a5)
      replace ba := ba.mono (Heap.le_trans (Heap.le_trans a4 az) a5)
      replace a0 := a0.mono (Heap.le_trans az a5)
      replace a1 := a1.mono (Heap.le_trans az a5)
      replace a2 := a2.mono (Heap.le_trans az a5)
      obtain ⟨_, _, rfl, ⟨bg, bh, rfl, i4⟩, rfl⟩ := fn
      refine ⟨.tup [.c (.slice bg x89.1.length bh), .c (.int .i64 x89.2)], rfl, fun jn (hq : Kn 117 (K4e1 e f g ac) ((89, .tup [.c (.slice bg x89.1.length bh), .c (.int .i64 x89.2)]) :: (tA 88 [.slice c0 x88.holds.length c6, .slice c1 x88.turns.length c7, .slice c2 x88.spares.length c8]) :: (tA 86 (K4c10 bs x86 bz bt b0 bu b1)) :: (tA 87 (K4c5 ag x79 am ah an ai ao)) :: (tA 85 (K4c6 i r_ l j m k o)) :: (K4m12 b x36 d)) jn) => hK _ _ bf.plOk ?_⟩
      refine Dr [5, 6, 7, 8, 9] [9, 8, 7, 6, 5, 4, 3, 1, 2, 0] ((tI 13 x89.2) :: (tS 12 bg x89.1.length bh) :: (K4m12 b x36 d)) hq bf fun k8 hr => ?_
      refine wpD_end (by kernel_rfl) (wp_seq (wp_region_G (by kernel_rfl) ?_))
      replace bf := bf.drew
      refine wpG_of_D [] (K4e1 e f g ac) [⟨(K4c6 i r_ l j m k o), some 28⟩, ⟨(K4c3 u a z x aa y ab), some 50⟩, ⟨(K4c4 aj x22 ap ak aq al ar), some 34⟩, ⟨(K4c5 ag x79 am ah an ai ao), some 50⟩] ?_
      refine Dr [0, 1, 2] [2, 1, 0] ((tB 94 (x89.2 == 0)) :: (tS 12 bg x89.1.length bh) :: (K4m12 b x36 d)) hr bf fun e5 eg => ?_
      rcases Bool.eq_false_or_eq_true ((x89.2 == 0)) with ct | ct
      ·
       rw [ct, cond_true] at H
       have hs : Kn 117 (K4e1 e f g ac) ((tB 94 true) :: (tS 12 bg x89.1.length bh) :: (K4m12 b x36 d)) e5 := (eg.setB 94 true (by rfl) ct).kp
       refine Dr [3, 5, 6] [6, 5, 3, 2, 1, 0] ((tI 98 r_.gap) :: (tS 95 bg x89.1.length bh) :: (tB 94 true) :: (K4m12 b x36 d)) hs bf fun k9 eh => ?_
       obtain ⟨x96, ex96, H⟩ := bnd H
       refine D_loud 4 rfl (by kernel_rfl) (by decide) (wantedS_sound eh (by kernel_rfl)) fun K hK => ?_
       refine wc [.c (.slice bg x89.1.length bh)] eh bf (law_greatest_ok n bf.has x89.1 i4 ex96) fun l4 j9 mu fo a6 b2 => ?_
       replace p := p.mono a6
       replace q := q.mono a6
       replace s := s.mono a6
       replace ad := ad.mono a6
       replace ae := ae.mono a6
       replace af := af.mono a6
       replace aw := aw.mono a6
       replace ax := ax.mono a6
       replace ay := ay.mono a6
       replace ba := ba.mono a6
       replace a0 := a0.mono a6
       replace a1 := a1.mono a6
       replace a2 := a2.mono a6
       obtain rfl := fo
       refine ⟨.one (.c (.int .i64 x96)), rfl, fun jo (ht : Kn 117 (K4e1 e f g ac) ((tI 96 x96) :: (tI 98 r_.gap) :: (tS 95 bg x89.1.length bh) :: (tB 94 true) :: (K4m12 b x36 d)) jo) => hK _ _ b2.plOk ?_⟩
       refine Dr [7, 8, 9] [9, 8, 7, 4, 6, 5, 3, 2, 1, 0] ((tB 101 (decide (x96 ≤ r_.gap))) :: (K4m12 b x36 d)) ht b2 fun e6 ei => ?_
       rcases Bool.eq_false_or_eq_true (decide (x96 ≤ r_.gap)) with cu | cu
       ·
        rw [cu, cond_true] at H
        have hu : Kn 117 (K4e1 e f g ac) ((tB 101 true) :: (K4m12 b x36 d)) e6 := (ei.setB 101 true (by rfl) cu).kp
        refine Dr [10, 12, 13] [13, 12, 10, 9, 8, 7, 4, 6, 5, 3, 2, 1, 0] [(tI 105 r_.gap), (tS 102 b x36.1.length d), (tB 101 true), (tP 11 3 0), (tP 3 1 0)] hu b2 fun la ej => ?_
        obtain ⟨x103, ex103, H⟩ := bnd H
        refine D_loud 11 rfl (by kernel_rfl) (by decide) (wantedS_sound ej (by kernel_rfl)) fun K hK => ?_
        refine wc [.c (.slice b x36.1.length d)] ej b2 (law_greatest_ok n b2.has x36.1 ba ex103) fun l5 d6 mv fp a8 bo => ?_
        replace p := p.mono a8
        replace q := q.mono a8
        replace s := s.mono a8
        replace ad := ad.mono a8
        replace ae := ae.mono a8
        replace af := af.mono a8
        replace aw := aw.mono a8
        replace ax := ax.mono a8
        replace ay := ay.mono a8
        replace a0 := a0.mono a8
        replace a1 := a1.mono a8
        replace a2 := a2.mono a8
        obtain rfl := fp
        refine ⟨.one (.c (.int .i64 x103)), rfl, fun jq (hw : Kn 117 (K4e1 e f g ac) [(tI 103 x103), (tI 105 r_.gap), (tS 102 b x36.1.length d), (tB 101 true), (tP 11 3 0), (tP 3 1 0)] jq) => hK _ _ bo.plOk ?_⟩
        refine Dr [14, 15] [15, 14, 11, 13, 12, 10, 9, 8, 7, 4, 6, 5, 3, 2, 1, 0] [(tB 107 (decide (x103 > r_.gap))), (tB 101 true), (tP 11 3 0), (tP 3 1 0)] hw bo fun e7 ek => ?_
        rcases Bool.eq_false_or_eq_true (decide (x103 > r_.gap)) with cv | cv
        ·
         rw [cv, cond_true] at H
         have hx : Kn 117 (K4e1 e f g ac) [(tB 107 true), (tB 101 true), (tP 11 3 0), (tP 3 1 0)] e7 := (ek.setB 107 true (by rfl) cv).kp
         refine Dr [16, 17, 18, 19, 20, 21, 22] [22, 21, 20, 19, 18, 17, 16, 15, 14, 11, 13, 12, 10, 9, 8, 7, 4, 6, 5, 3, 2, 1, 0] [(tB 114 true)] hx bo fun lb el => ?_
         obtain ⟨x115, ex115, H⟩ := bnd H
         refine D_loud 23 rfl (by kernel_rfl) (by decide) (wantedS_sound el (by kernel_rfl)) fun K hK => ?_
         refine wc [] el bo (law_awake_ok n bo.has  ex115) fun l6 ka mw fq kf du => ?_
         obtain rfl := fq
         refine ⟨.one (.c (.bool x115)), rfl, fun jr (hy : Kn 117 (K4e1 e f g ac) [(tB 115 x115), (tB 114 true)] jr) => hK _ _ du.plOk ?_⟩
         refine Dr [24, 25] [25, 24, 23, 22, 21, 20, 19, 18, 17, 16, 15, 14, 11, 13, 12, 10, 9, 8, 7, 4, 6, 5, 3, 2, 1, 0] [(tB 4 x115)] hy du fun ld hz => ?_
         refine wpD_end (by kernel_rfl) (wp_ret ?_)
         obtain rfl := Option.some.inj H
         exact rt (.one (.c (.bool x115))) hz du rfl
        ·
         rw [cv, cond_false] at H
         have h0 : Kn 117 (K4e1 e f g ac) [(tB 107 false), (tB 101 true), (tP 11 3 0), (tP 3 1 0)] e7 := (ek.setB 107 false (by rfl) cv).kp
         refine Dr [16, 17] [17, 16, 15, 14, 11, 13, 12, 10, 9, 8, 7, 4, 6, 5, 3, 2, 1, 0] [(tA 109 (K4c5 ag x79 am ah an ai ao)), (tA 108 (K4c3 u a z x aa y ab)), (tB 107 false), (tB 101 true)] h0 bo fun lf em => ?_
         obtain ⟨x110, ex110, H⟩ := bnd H
         refine D_loud 18 rfl (by kernel_rfl) (by decide) (wantedS_sound em (by kernel_rfl)) fun K hK => ?_
         refine wc [.agg (K4c3 u a z x aa y ab), .agg (K4c5 ag x79 am ah an ai ao)] em bo (ref_Better_ok n bo.has a ((rep_pair (rep_slice ad) (rep_pair (rep_slice ae) (rep_slice af))) : rep d6 a _) x79 ((rep_pair (rep_slice a0) (rep_pair (rep_slice a1) (rep_slice a2))) : rep d6 x79 _) ex110) fun l7 kb mx fs a9 cl => ?_
         replace p := p.mono a9
         replace q := q.mono a9
         replace s := s.mono a9
         replace ad := ad.mono a9
         replace ae := ae.mono a9
         replace af := af.mono a9
         replace aw := aw.mono a9
         replace ax := ax.mono a9
         replace ay := ay.mono a9
         replace a0 := a0.mono a9
         replace a1 := a1.mono a9
         replace a2 := a2.mono a9
         obtain rfl := fs
         refine ⟨.one (.c (.bool x110)), rfl, fun js (h1 : Kn 117 (K4e1 e f g ac) [(tB 110 x110), (tA 109 (K4c5 ag x79 am ah an ai ao)), (tA 108 (K4c3 u a z x aa y ab)), (tB 107 false), (tB 101 true)] js) => hK _ _ cl.plOk ?_⟩
         refine Dr [19, 20, 21, 22] [22, 21, 20, 19, 18, 17, 16, 15, 14, 11, 13, 12, 10, 9, 8, 7, 4, 6, 5, 3, 2, 1, 0] [(tB 114 (!x110))] h1 cl fun e8 en => ?_
         rcases Bool.eq_false_or_eq_true ((!x110)) with cw | cw
         ·
          rw [cw, cond_true] at H
          have eo : Kn 117 (K4e1 e f g ac) [(tB 114 true)] e8 := (en.setB 114 true (by rfl) cw).kp
          obtain ⟨x115, ex115, H⟩ := bnd H
          refine D_loud 23 rfl (by kernel_rfl) (by decide) (wantedS_sound eo (by kernel_rfl)) fun K hK => ?_
          refine wc [] eo cl (law_awake_ok n cl.has  ex115) fun l8 kc my ft kg dv => ?_
          obtain rfl := ft
          refine ⟨.one (.c (.bool x115)), rfl, fun jt (h2 : Kn 117 (K4e1 e f g ac) [(tB 115 x115), (tB 114 true)] jt) => hK _ _ dv.plOk ?_⟩
          refine Dr [24, 25] [25, 24, 23, 22, 21, 20, 19, 18, 17, 16, 15, 14, 11, 13, 12, 10, 9, 8, 7, 4, 6, 5, 3, 2, 1, 0] [(tB 4 x115)] h2 dv fun lg h3 => ?_
          refine wpD_end (by kernel_rfl) (wp_ret ?_)
          obtain rfl := Option.some.inj H
          exact rt (.one (.c (.bool x115))) h3 dv rfl
         ·
          rw [cw, cond_false] at H
          have h4 : Kn 117 (K4e1 e f g ac) [(tB 114 false)] e8 := (en.setB 114 false (by rfl) cw).kp
          refine Dr [23, 24, 25] [25, 24, 23, 22, 21, 20, 19, 18, 17, 16, 15, 14, 11, 13, 12, 10, 9, 8, 7, 4, 6, 5, 3, 2, 1, 0] [(tB 4 false)] h4 cl fun lh h5 => ?_
          refine wpD_end (by kernel_rfl) (wp_ret ?_)
          obtain rfl := Option.some.inj H
          exact rt (.one (.c (.bool false))) h5 cl rfl
       ·
        rw [cu, cond_false] at H
        have h6 : Kn 117 (K4e1 e f g ac) ((tB 101 false) :: (K4m12 b x36 d)) e6 := (ei.setB 101 false (by rfl) cu).kp
        refine Dr [10, 11, 12, 13, 14, 15, 16, 17, 18, 19, 20, 21, 22, 23, 24, 25] [25, 24, 23, 22, 21, 20, 19, 18, 17, 16, 15, 14, 13, 12, 11, 10, 9, 8, 7, 4, 6, 5, 3, 2, 1, 0] [(tB 4 false)] h6 b2 fun li h7 => ?_
        refine wpD_end (by kernel_rfl) (wp_ret ?_)
        obtain rfl := Option.some.inj H
        exact rt (.one (.c (.bool false))) h7 b2 rfl
      ·
       rw [ct, cond_false] at H
       have h8 : Kn 117 (K4e1 e f g ac) ((tB 94 false) :: (tS 12 bg x89.1.length bh) :: (K4m12 b x36 d)) e5 := (eg.setB 94 false (by rfl) ct).kp
       refine Dr [3, 4, 5, 6, 7, 8, 9, 10, 11, 12, 13, 14, 15, 16, 17, 18, 19, 20, 21, 22, 23, 24, 25] (dn 25) [(tB 4 false)] h8 bf fun lj h9 => ?_
       refine wpD_end (by kernel_rfl) (wp_ret ?_)
       obtain rfl := Option.some.inj H
       exact rt (.one (.c (.bool false))) h9 bf rfl
end Go.Proofs.Ytokchpjijlebiaa
