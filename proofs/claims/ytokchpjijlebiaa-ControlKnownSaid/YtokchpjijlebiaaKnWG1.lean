/- Each call computes its plain function. -/
import Derived.Test.YtokchpjijlebiaaProg
import Derived.Test.YtokchpjijlebiaaKnP0
import Derived.Test.YtokchpjijlebiaaKnWA1
import Derived.Test.YtokchpjijlebiaaKnWB
import Derived.Test.YtokchpjijlebiaaKnWB1
import Derived.Test.YtokchpjijlebiaaKnWC
import Derived.Test.YtokchpjijlebiaaKnWC1
import Derived.Test.YtokchpjijlebiaaKnWD
set_option linter.all false
namespace Go.Proofs.Ytokchpjijlebiaa
open Go Go.RowKit
open Rep (rep)
open KRep (kv)
open VRep (rv)
abbrev K6c1 (x64 : Rg) : List SC := [.int .i64 x64.lo, .int .i64 x64.hi]
abbrev K6c2 (x93 : Bus) : List SC := [.int .i64 x93.stop, .int .i64 x93.tm.lo, .int .i64 x93.tm.hi]
abbrev K6c3 (s : Option Addr) (a : Acts) (y : Nat) (u : Option Addr) (z : Nat) (x : Option Addr) (aa : Nat) : List SC := [.slice s a.holds.length y, .slice u a.turns.length z, .slice x a.spares.length aa]
abbrev K6e4 (b d f a9 : Nat) (at_ : IK .u8) (x34 : List Rg) : Env := [(b, 0), (d, 0), (f, 0), (a9, 0 + (Int.tmod (IntKind.i64.wrap at_.n) ((x34.length : Nat) : Int) : Int).toNat * 2)]
abbrev K6e5 (b d f bn : Nat) (at_ : IK .u8) (x38 : List Bus) : Env := [(b, 0), (d, 0), (f, 0), (bn, 0 + (Int.tmod (IntKind.i64.wrap at_.n) ((x38.length : Nat) : Int) : Int).toNat * 3)]
abbrev K6c6 : List SC := [.slice none 0 0, .int .i64 0, .int .i64 0, .slice none 0 0, .slice none 0 0, .int .i64 0, .int .i64 0, .int .i64 0, .int .i64 0]
abbrev K6c7 (ae : Option Addr) (x34 : List Rg) (af : Nat) (r_ : Route) (ai : Option Addr) (x38 : List Bus) (aj : Nat) (g : Option Addr) (l : Nat) : List SC := [.slice ae x34.length af, .int .i64 r_.turn.lo, .int .i64 r_.turn.hi, .slice ai x38.length aj, .slice g r_.spares.length l, .int .i64 r_.unit, .int .i64 r_.gap, .int .i64 r_.fr, .int .i64 r_.to_]
abbrev K6c8 (m : Option Addr) (r_ : Route) (p : Nat) (o : Option Addr) (q : Nat) (g : Option Addr) (l : Nat) : List SC := [.slice m r_.legs.length p, .int .i64 r_.turn.lo, .int .i64 r_.turn.hi, .slice o r_.buses.length q, .slice g r_.spares.length l, .int .i64 r_.unit, .int .i64 r_.gap, .int .i64 r_.fr, .int .i64 r_.to_]
abbrev K6e9 (b d f a9 : Nat) (at_ : IK .u8) (x34 : List Rg) (bs : Nat) : Env := [(b, 0), (d, 0), (f, 0), (a9, 0 + (Int.tmod (IntKind.i64.wrap at_.n) ((x34.length : Nat) : Int) : Int).toNat * 2), (bs, 0 + (Int.tmod (IntKind.i64.wrap at_.n) ((x34.length : Nat) : Int) : Int).toNat * 2)]
abbrev K6c10 (ak : Option Addr) (ab : ((List Rg) × (List Bus) × Int × Int)) (am : Nat) (al : Option Addr) (an : Nat) (g : Option Addr) (r_ : Route) (l : Nat) : List SC := [.slice ak ab.1.length am, .int .i64 ab.2.2.1, .int .i64 ab.2.2.2, .slice al ab.2.1.length an, .slice g r_.spares.length l, .int .i64 r_.unit, .int .i64 r_.gap, .int .i64 r_.fr, .int .i64 r_.to_]
abbrev K6c11 (b1 : Option Addr) (x106 : Route) (ca : Nat) (b2 : Option Addr) (cb : Nat) (b3 : Option Addr) (cc : Nat) : List SC := [.slice b1 x106.legs.length ca, .int .i64 x106.turn.lo, .int .i64 x106.turn.hi, .slice b2 x106.buses.length cb, .slice b3 x106.spares.length cc, .int .i64 x106.unit, .int .i64 x106.gap, .int .i64 x106.fr, .int .i64 x106.to_]
abbrev K6c12 (b4 : Option Addr) (x114 : Route) (cd : Nat) (b5 : Option Addr) (ce : Nat) (b6 : Option Addr) (cf : Nat) : List SC := [.slice b4 x114.legs.length cd, .int .i64 x114.turn.lo, .int .i64 x114.turn.hi, .slice b5 x114.buses.length ce, .slice b6 x114.spares.length cf, .int .i64 x114.unit, .int .i64 x114.gap, .int .i64 x114.fr, .int .i64 x114.to_]
abbrev K6c13 (ct : Option Addr) (x122 : Route) (c2 : Nat) (cu : Option Addr) (c3 : Nat) (cv : Option Addr) (c4 : Nat) : List SC := [.slice ct x122.legs.length c2, .int .i64 x122.turn.lo, .int .i64 x122.turn.hi, .slice cu x122.buses.length c3, .slice cv x122.spares.length c4, .int .i64 x122.unit, .int .i64 x122.gap, .int .i64 x122.fr, .int .i64 x122.to_]
abbrev K6c14 (cw : Option Addr) (x128 : Route) (c5 : Nat) (cx : Option Addr) (c6 : Nat) (cy : Option Addr) (c7 : Nat) : List SC := [.slice cw x128.legs.length c5, .int .i64 x128.turn.lo, .int .i64 x128.turn.hi, .slice cx x128.buses.length c6, .slice cy x128.spares.length c7, .int .i64 x128.unit, .int .i64 x128.gap, .int .i64 x128.fr, .int .i64 x128.to_]
abbrev K6p15 (m : Option Addr) (r_ : Route) (p : Nat) (o : Option Addr) (q : Nat) (g : Option Addr) (l : Nat) (s : Option Addr) (a : Acts) (y : Nat) (u : Option Addr) (z : Nat) (x : Option Addr) (aa : Nat) : List Plc := [⟨(K6c8 m r_ p o q g l), some 28⟩, ⟨(K6c3 s a y u z x aa), some 50⟩, ⟨[], some 28⟩]
abbrev K6p16 (m : Option Addr) (r_ : Route) (p : Nat) (o : Option Addr) (q : Nat) (g : Option Addr) (l : Nat) (s : Option Addr) (a : Acts) (y : Nat) (u : Option Addr) (z : Nat) (x : Option Addr) (aa : Nat) : List Plc := [⟨(K6c8 m r_ p o q g l), some 28⟩, ⟨(K6c3 s a y u z x aa), some 50⟩, ⟨(K6c8 m r_ p o q g l), some 28⟩]
abbrev K6r17 (ak : Option Addr) (ab : ((List Rg) × (List Bus) × Int × Int)) (am : Nat) (a8 : List Value) (al : Option Addr) (an : Nat) (bb : List Value) : List Row := [⟨ak, ab.1.length, am, 24, 2, a8, (a8 : List Value).length⟩, ⟨al, ab.2.1.length, an, 63, 3, bb, (bb : List Value).length⟩]
abbrev K6m18 (which at_ by_ : IK .u8) : TM := [(tP 6 1 0), (tP 5 0 0), (2, .one (.c (.int .u8 which.n))), (3, .one (.c (.int .u8 at_.n))), (4, .one (.c (.int .u8 by_.n)))]
abbrev K6m19 (ag : Option Addr) (x117 : (List Int) × Int) (ah : Nat) (ac : Option Addr) (x109 : (List Int) × Int) (ad : Nat) : TM := [(tS 18 ag x117.1.length ah), (tS 16 ac x109.1.length ad)]
abbrev K6m20 (by_ : IK .u8) : TM := [(tB 13 ((Int.tmod by_.n 2) == 0)), (tI 12 (Int.tmod (IntKind.i64.wrap (Int.tdiv (IntKind.i64.wrap by_.n) 2)) 20)), (tP 11 2 0), (tP 6 1 0), (tP 5 0 0)]
abbrev K6m21 (m : Option Addr) (r_ : Route) (p : Nat) (which at_ by_ : IK .u8) : TM := (tS 33 m r_.legs.length p) :: (tP 11 2 0) :: (K6m18 which at_ by_)
abbrev K6m22 (by_ : IK .u8) (x64 : Rg) (at_ : IK .u8) (x34 : List Rg) (ae : Option Addr) (af : Nat) : TM := [(tB 67 ((Int.tmod by_.n 2) == 0)), (tI 66 (Int.tmod (IntKind.i64.wrap (Int.tdiv (IntKind.i64.wrap by_.n) 2)) 20)), (tA 65 (K6c1 x64)), (tI 60 (Int.tmod (IntKind.i64.wrap at_.n) ((x34.length : Nat) : Int))), (tS 59 ae x34.length af), (tP 11 2 0), (tP 6 1 0), (tP 5 0 0)]
set_option maxRecDepth 100000 in
set_option maxHeartbeats 4000000 in
theorem law_ControlKnown_ok (n : Nat) {h : Heap} {w : World} (hh : Has h w) (r_ : Route) {cs_r_ : List Value} (hx_r_ : rep h r_ cs_r_) (a : Acts) {cs_a : List Value} (hx_a : rep h a cs_a) (which : IK .u8) (at_ : IK .u8) (by_ : IK .u8) {r : Bool} (H : law_ControlKnown n r_ a which at_ by_ = some r) :
  Calls Try.prog 6 #[.agg cs_r_.toArray, .agg cs_a.toArray, .int .u8 which.n, .int .u8 at_.n, .int .u8 by_.n] w (Ret (fun h v => v = .bool r) h w) := by
 obtain ⟨_, _, rfl, ⟨m, p, rfl, aq⟩, ⟨_, _, rfl, ⟨_, _, rfl, rfl, rfl⟩, ⟨_, _, rfl, ⟨o, q, rfl, a0⟩, ⟨_, _, rfl, ⟨g, l, rfl, ax⟩, ⟨_, _, rfl, rfl, ⟨_, _, rfl, rfl, ⟨_, _, rfl, rfl, rfl⟩⟩⟩⟩⟩⟩⟩ := hx_r_
 obtain ⟨_, _, rfl, ⟨s, y, rfl, a3⟩, ⟨_, _, rfl, ⟨u, z, rfl, a4⟩, ⟨x, aa, rfl, a5⟩⟩⟩ := hx_a
 refine enter 174 [.agg (K6c8 m r_ p o q g l), .agg (K6c3 s a y u z x aa), .c (.int .u8 which.n), .c (.int .u8 at_.n), .c (.int .u8 by_.n)] Try.func6 rfl rfl rfl rfl fun t hk => ?_
 have hm := Mem.begin h w hh
 unfold law_ControlKnown at H
 refine wp_seq (wp_region_from (wl fun K hK => ?_))
 refine wb (.agg (K6c8 m r_ p o q g l)) hk hm fun b qy r9 (mj : Kn 174 [(b, 0)] [(tP 5 0 0), (tA 0 (K6c8 m r_ p o q g l)), (tA 1 (K6c3 s a y u z x aa)), (2, .one (.c (.int .u8 which.n))), (3, .one (.c (.int .u8 at_.n))), (4, .one (.c (.int .u8 by_.n)))] qy) (pm : Mem ⟨w, h, noX⟩ h [(b, 0)] [⟨(K6c8 m r_ p o q g l), some 28⟩] [] r9) => hK _ _ ?_
 refine wl fun K hK => ?_
 refine wb (.agg (K6c3 s a y u z x aa)) mj pm fun d q3 sa (mw : Kn 174 [(b, 0), (d, 0)] [(tP 6 1 0), (tP 5 0 0), (tA 0 (K6c8 m r_ p o q g l)), (tA 1 (K6c3 s a y u z x aa)), (2, .one (.c (.int .u8 which.n))), (3, .one (.c (.int .u8 at_.n))), (4, .one (.c (.int .u8 by_.n)))] q3) (fc : Mem ⟨w, h, noX⟩ h [(b, 0), (d, 0)] [⟨(K6c8 m r_ p o q g l), some 28⟩, ⟨(K6c3 s a y u z x aa), some 50⟩] [] sa) => hK _ _ ?_
 refine Rk 2 1 (K6m18 which at_ by_) mw fc fun tq m0 => ?_
 refine wf (wp_seq (wp_seq (wp_region_from (Rk 0 2 ((tA 26 (K6c3 s a y u z x aa)) :: (tA 25 (K6c8 m r_ p o q g l)) :: (K6m18 which at_ by_)) m0 fc fun tt m2 => ?_))))
 obtain ⟨x27, ex27, H⟩ := bnd H
 refine wl fun K hK => ?_
 refine wc [.agg (K6c8 m r_ p o q g l), .agg (K6c3 s a y u z x aa)] m2 fc (law_ready_ok n fc.has r_ ((rep_pair (rep_slice aq) (rep_pair (rep_pair rep_int rep_int) (rep_pair (rep_slice a0) (rep_pair (rep_slice ax) (rep_pair rep_int (rep_pair rep_int (rep_pair rep_int rep_int))))))) : rep h r_ _) a ((rep_pair (rep_slice a3) (rep_pair (rep_slice a4) (rep_slice a5))) : rep h a _) ex27) fun uw ap vd kh df d6 => ?_
 replace aq := aq.mono df
 replace a0 := a0.mono df
 replace ax := ax.mono df
 replace a3 := a3.mono df
 replace a4 := a4.mono df
 replace a5 := a5.mono df
 obtain rfl := kh
 refine ⟨.one (.c (.bool x27)), rfl, fun rc (nc : Kn 174 [(b, 0), (d, 0)] ((tB 27 x27) :: (tA 26 (K6c3 s a y u z x aa)) :: (tA 25 (K6c8 m r_ p o q g l)) :: (K6m18 which at_ by_)) rc) => hK _ _ ?_⟩
 refine Rk 3 1 ((tB 28 (!x27)) :: (K6m18 which at_ by_)) nc d6 fun ty gc => ?_
 refine wf (wC ((!x27)) gc (fun f3 => ?_) (fun f3 => ?_))
 ·
  rw [f3, cond_true] at H
  refine wp_seq (wp_region_from ?_)
  obtain ⟨x29, ex29, H⟩ := bnd H
  refine wl fun K hK => ?_
  refine wc [] gc d6 (law_awake_ok n d6.has  ex29) fun u2 sy vj km s4 i0 => ?_
  obtain rfl := km
  refine ⟨.one (.c (.bool x29)), rfl, fun rg (n4 : Kn 174 [(b, 0), (d, 0)] ((tB 29 x29) :: (tB 28 (!x27)) :: (K6m18 which at_ by_)) rg) => hK _ _ ?_⟩
  refine Rk 1 1 [(tB 10 x29)] n4 i0 fun ue n9 => ?_
  refine wf (wp_ret ?_)
  obtain rfl := Option.some.inj H
  exact rt (.one (.c (.bool x29))) n9 i0 rfl
 ·
  rw [f3, cond_false] at H
  refine wp_skip (wp_seq (wp_region_from (Rk 0 1 ((tA 30 (K6c8 m r_ p o q g l)) :: (K6m18 which at_ by_)) gc d6 fun ug oe => ?_)))
  refine wl fun K hK => ?_
  refine wa K6c6 oe d6 fun f j1 sc (oj : Kn 174 [(b, 0), (d, 0), (f, 0)] ((tP 11 2 0) :: (tA 30 (K6c8 m r_ p o q g l)) :: (K6m18 which at_ by_)) j1) (pq : Mem ⟨w, h, noX⟩ ap [(b, 0), (d, 0), (f, 0)] [⟨(K6c8 m r_ p o q g l), some 28⟩, ⟨(K6c3 s a y u z x aa), some 50⟩, ⟨K6c6, some 28⟩] [] sc) => hK _ _ ?_
  refine wl fun K hK => ?_
  refine wst 2 0 (.agg (K6c8 m r_ p o q g l)) (K6c8 m r_ p o q g l) oj pq fun hz om (fh : Mem ⟨w, h, noX⟩ ap [(b, 0), (d, 0), (f, 0)] (K6p16 m r_ p o q g l s a y u z x aa) [] hz) => hK _ _ ?_
  have os : Kn 174 [(b, 0), (d, 0), (f, 0)] ((tP 11 2 0) :: (K6m18 which at_ by_)) j1 := om.kp
  refine wf (wp_seq (wp_region_G (by kernel_rfl) ?_))
  replace fh := fh.drew
  refine wpG_of_D [6] [(b, 0), (d, 0), (f, 0)] (K6p15 m r_ p o q g l s a y u z x aa) ?_
  refine D_run [1, 2, 5] [5, 2, 1] [36, 33, 11, 6, 5, 2, 3, 4] ((tP 36 0 3) :: (K6m21 m r_ p which at_ by_)) (fun _ _ _ _ _ h => h) os (PlOk.forget [2] fh.plOk) (by kernel_rfl) (by rfl) (by kernel_rfl) fun uj gh => ?_
  obtain ⟨x34, ex34, H⟩ := bnd H
  obtain ⟨x38, ex38, H⟩ := bnd H
  have pr : Mem ⟨w, h, noX⟩ ap [(b, 0), (d, 0), (f, 0)] (K6p16 m r_ p o q g l s a y u z x aa) [⟨none, 0, 0, 24, 2, [], 0⟩] (World.drew hz) := fh.nilRow 24 2
  have s2 : Cells ap ([] : List Rg) [] := Cells.nil
  have dj : Mem ⟨w, h, noX⟩ ap [(b, 0), (d, 0), (f, 0)] (K6p16 m r_ p o q g l s a y u z x aa) [⟨none, 0, 0, 24, 2, [], 0⟩, ⟨none, 0, 0, 63, 3, [], 0⟩] (World.drew hz) := pr.nilRow 63 3
  have s3 : Cells ap ([] : List Bus) [] := Cells.nil
  refine D_share (fun W => ∀ (ae : Option Addr), ∀ (af : Nat), ∀ (ar : List Value), ∀ (eo : Option Addr), ∀ (e1 : Nat), ∀ (au : List Value), ∀ a' w', (∃ (hx : Array Value) (a1 : Heap), a' = ⟨hx, []⟩ ∧ Kn 174 [(b, 0), (d, 0), (f, 0)] ((tS 37 o r_.buses.length q) :: (tS 35 eo 0 e1) :: (tP 39 2 0) :: (tS 34 ae x34.length af) :: (tP 11 2 0) :: (K6m18 which at_ by_)) hx ∧ Mem ⟨w, h, noX⟩ a1 [(b, 0), (d, 0), (f, 0)] (K6p16 m r_ p o q g l s a y u z x aa) [⟨ae, x34.length, af, 24, 2, ar, 0⟩, ⟨eo, 0, e1, 63, 3, au, 0⟩] w' ∧ Heap.le ap a1 ∧ Cells a1 x34 ar ∧ Cells a1 ([] : List Bus) au) → W [(b, 0), (d, 0), (f, 0)] (K6p15 m r_ p o q g l s a y u z x aa) [8, 3, 0, 4, 6, 5, 2, 1] a' w') ?_ (fun hf => ?_)
  ·
   intro ae af ar eo e1 au
   rintro _ vs ⟨hx, a1, rfl, o7, jc, dg, a2, lp⟩
   replace aq := aq.mono dg
   replace a0 := a0.mono dg
   replace ax := ax.mono dg
   replace a3 := a3.mono dg
   replace a4 := a4.mono dg
   replace a5 := a5.mono dg
   refine Dl 7 fun K hK => ?_
   obtain ⟨aw, e9, qg, _⟩ := id a0
   obtain ⟨hd, pe⟩ := app_some ex38
   refine wp_append 1 24 r_.buses.length _ (x38.length) _ aw o7 jc rfl rfl (by decide) rfl (by rfl) (by kernel_rfl) (by rfl) (by rfl) (Cells.len e9) (qg.cell jc.has e9.one) e9.one (by rw [hd]; simp) (by rw [hd]; exact pe) (by decide) fun ai aj h6 r5 sr lv (o8 : Kn 174 [(b, 0), (d, 0), (f, 0)] ((tS 38 ai x38.length aj) :: (tS 37 o r_.buses.length q) :: (tS 35 eo 0 e1) :: (tP 39 2 0) :: (tS 34 ae x34.length af) :: (tP 11 2 0) :: (K6m18 which at_ by_)) r5) (jd : Mem ⟨w, h, noX⟩ a1 [(b, 0), (d, 0), (f, 0)] (K6p16 m r_ p o q g l s a y u z x aa) [⟨ae, x34.length, af, 24, 2, ar, 0⟩, ⟨ai, x38.length, aj, 63, 3, (au ++ aw), h6⟩] sr) => ?_
   have ba : Cells a1 x38 (au ++ aw) := by rw [hd]; exact Cells.append lp e9
   obtain rfl : h6 = 0 := Nat.le_zero.1 lv
   refine hK _ _ (PlOk.forget [2] jd.plOk) ?_
   refine D_sync 9 rfl (by kernel_rfl) (by decide) (rfl) (by kernel_rfl) fun K hK => ?_
   refine wst 2 0 (.c (.slice ae x34.length af)) [.slice ae x34.length af, .int .i64 r_.turn.lo, .int .i64 r_.turn.hi, .slice o r_.buses.length q, .slice g r_.spares.length l, .int .i64 r_.unit, .int .i64 r_.gap, .int .i64 r_.fr, .int .i64 r_.to_] o8 jd fun r6 lw (iw : Mem ⟨w, h, noX⟩ a1 [(b, 0), (d, 0), (f, 0)] [⟨(K6c8 m r_ p o q g l), some 28⟩, ⟨(K6c3 s a y u z x aa), some 50⟩, ⟨[.slice ae x34.length af, .int .i64 r_.turn.lo, .int .i64 r_.turn.hi, .slice o r_.buses.length q, .slice g r_.spares.length l, .int .i64 r_.unit, .int .i64 r_.gap, .int .i64 r_.fr, .int .i64 r_.to_], some 28⟩] [⟨ae, x34.length, af, 24, 2, ar, 0⟩, ⟨ai, x38.length, aj, 63, 3, (au ++ aw), 0⟩] r6) => hK _ _ ?_
   refine wpG_of_D [6] [(b, 0), (d, 0), (f, 0)] (K6p15 m r_ p o q g l s a y u z x aa) ?_
   refine D_run [10] [10, 9, 7, 8, 3, 0, 4, 6, 5, 2, 1] [40, 38, 11, 6, 5, 2, 3, 4] ((tP 40 2 3) :: (tS 38 ai x38.length aj) :: (tP 11 2 0) :: (K6m18 which at_ by_)) (fun _ _ _ _ _ h => h) lw (PlOk.forget [2] iw.plOk) (by kernel_rfl) (by rfl) (by kernel_rfl) fun qs lx => ?_
   refine D_sync 11 rfl (by kernel_rfl) (by decide) (rfl) (by kernel_rfl) fun K hK => ?_
   refine wst 2 3 (.c (.slice ai x38.length aj)) (K6c7 ae x34 af r_ ai x38 aj g l) lx iw fun hy ly (av : Mem ⟨w, h, noX⟩ a1 [(b, 0), (d, 0), (f, 0)] [⟨(K6c8 m r_ p o q g l), some 28⟩, ⟨(K6c3 s a y u z x aa), some 50⟩, ⟨(K6c7 ae x34 af r_ ai x38 aj g l), some 28⟩] [⟨ae, x34.length, af, 24, 2, ar, 0⟩, ⟨ai, x38.length, aj, 63, 3, (au ++ aw), 0⟩] hy) => hK _ _ ?_
   refine wpG_of_D [6] [(b, 0), (d, 0), (f, 0)] (K6p15 m r_ p o q g l s a y u z x aa) ?_
   have lz : Kn 174 [(b, 0), (d, 0), (f, 0)] ((tP 11 2 0) :: (K6m18 which at_ by_)) qs := ly.kp
   refine wpD_end (by kernel_rfl) (wp_seq (wp_region_from (Rk 0 9 [(tB 13 ((Int.tmod by_.n 2) == 0)), (tI 12 (Int.tmod (IntKind.i64.wrap (Int.tdiv (IntKind.i64.wrap by_.n) 2)) 20)), (tP 11 2 0), (tP 6 1 0), (tP 5 0 0), (2, .one (.c (.int .u8 which.n))), (3, .one (.c (.int .u8 at_.n)))] lz av fun tb l0 => ?_)))
   refine wf (wp_seq (wp_block (wp_seq (wp_region_from (Rk 0 4 [(tB 48 ((Int.tmod which.n 3) == 0)), (tB 13 ((Int.tmod by_.n 2) == 0)), (tI 12 (Int.tmod (IntKind.i64.wrap (Int.tdiv (IntKind.i64.wrap by_.n) 2)) 20)), (tP 11 2 0), (tP 6 1 0), (tP 5 0 0), (2, .one (.c (.int .u8 which.n))), (3, .one (.c (.int .u8 at_.n)))] l0 av fun tc f9 => ?_)))))
   refine wf ?_
   obtain ⟨ab, ao, H⟩ := bnd H
   refine wp_mid' (fun a' w' => ∃ (ak : Option Addr) (am : Nat) (a8 : List Value) (al : Option Addr) (an : Nat) (bb : List Value) (hl : Array Value) (db : Heap), a' = ⟨hl, []⟩ ∧ Kn 174 [(b, 0), (d, 0), (f, 0)] [(tP 11 2 0), (tP 6 1 0), (tP 5 0 0)] hl ∧ Mem ⟨w, h, noX⟩ db [(b, 0), (d, 0), (f, 0)] [⟨(K6c8 m r_ p o q g l), some 28⟩, ⟨(K6c3 s a y u z x aa), some 50⟩, ⟨(K6c10 ak ab am al an g r_ l), some 28⟩] [⟨ak, ab.1.length, am, 24, 2, a8, 0⟩, ⟨al, ab.2.1.length, an, 63, 3, bb, 0⟩] w' ∧ Heap.le a1 db ∧ Cells db ab.1 a8 ∧ Cells db ab.2.1 bb) ?_ ?_
   ·
    refine wC (((Int.tmod which.n 3) == 0)) f9 (fun f0 => ?_) (fun f0 => ?_)
    ·
     rw [f0, cond_true] at ao
     refine wp_seq (wp_region_from (Rk 0 5 ((tI 56 ((x34.length : Nat) : Int)) :: (tI 53 (IntKind.i64.wrap at_.n)) :: (K6m20 by_)) f9 av fun td l1 => ?_))
     obtain ⟨x57, ex57, ao⟩ := bnd ao
     refine R_rem 5 l1 rfl rfl (rfl) rfl (by decide) (by rfl) (by rfl) (nz_some ex57) fun qt (l2 : Kn 174 [(b, 0), (d, 0), (f, 0)] ((tI 57 (Int.tmod (IntKind.i64.wrap at_.n) ((x34.length : Nat) : Int))) :: (tI 56 ((x34.length : Nat) : Int)) :: (tI 53 (IntKind.i64.wrap at_.n)) :: (K6m20 by_)) qt) => ?_
     refine Rk 6 1 ((tI 14 (Int.tmod (IntKind.i64.wrap at_.n) ((x34.length : Nat) : Int))) :: (K6m20 by_)) l2 av fun te l3 => ?_
     refine wf (wp_region_G (by kernel_rfl) ?_)
     replace av := av.drew
     refine wpG_of_D [] [(b, 0), (d, 0), (f, 0)] [⟨(K6c8 m r_ p o q g l), some 28⟩, ⟨(K6c3 s a y u z x aa), some 50⟩, ⟨(K6c7 ae x34 af r_ ai x38 aj g l), some 28⟩] ?_
     refine Dr [0, 1, 2, 3, 4, 5] (dn 5) ((tI 63 (Int.tmod (IntKind.i64.wrap at_.n) ((x34.length : Nat) : Int))) :: (tS 62 ae x34.length af) :: (tI 60 (Int.tmod (IntKind.i64.wrap at_.n) ((x34.length : Nat) : Int))) :: (tS 59 ae x34.length af) :: (K6m20 by_)) l3 av fun tf l4 => ?_
     obtain ⟨x64, ex64, ao⟩ := bnd ao
     obtain ⟨jf, ji, qm⟩ := idx_some ex64
     have o9 := lt_of_idx jf ji
     obtain ⟨ss, qh, kz⟩ := cells_get (sz := 2) rfl a2 qm
     obtain ⟨_, _, rfl, rfl, rfl⟩ := qh
     obtain ⟨a9, e3⟩ := row_addr av (i := 0) rfl (b0 := 0 + (Int.tmod (IntKind.i64.wrap at_.n) ((x34.length : Nat) : Int) : Int).toNat * 2) (Nat.lt_of_lt_of_le (Nat.lt_add_of_pos_right (by decide)) (cells_fit (sz := 2) rfl a2 o9))
     have fb : Mem ⟨w, h, noX⟩ a1 (K6e4 b d f a9 at_ x34) [⟨(K6c8 m r_ p o q g l), some 28⟩, ⟨(K6c3 s a y u z x aa), some 50⟩, ⟨(K6c7 ae x34 af r_ ai x38 aj g l), some 28⟩, ⟨[], none⟩] [⟨ae, x34.length, af, 24, 2, ar, 0⟩, ⟨ai, x38.length, aj, 63, 3, (au ++ aw), 0⟩] (World.drew hy) := av.addPlc (cs := []) (fun j c hj => by simp at hj) rfl (by kernel_rfl) (by kernel_rfl)
     have f7 : ∀ (e : Env) k c, ([.int .i64 x64.lo, .int .i64 x64.hi] : List SC)[k]? = some c → (ar)[0 + (Int.tmod (IntKind.i64.wrap at_.n) ((x34.length : Nat) : Int) : Int).toNat * 2 + k]? = some (c.den e) := fun e k c hk => kz k _ (map_get hk)
     refine D_index 6 (Int.tmod (IntKind.i64.wrap at_.n) ((x34.length : Nat) : Int)) (K6c1 x64) (fun _ _ _ _ _ h => h) rfl rfl (rfl) rfl (by decide) (by kernel_rfl) (by kernel_rfl) l4 av.plOk (by rfl) (by rfl) (by rfl) e3 (by rfl) jf ji (by kernel_rfl) fun qu (l5 : Kn 174 (K6e4 b d f a9 at_ x34) ((tP 64 3 0) :: (tI 63 (Int.tmod (IntKind.i64.wrap at_.n) ((x34.length : Nat) : Int))) :: (tS 62 ae x34.length af) :: (tI 60 (Int.tmod (IntKind.i64.wrap at_.n) ((x34.length : Nat) : Int))) :: (tS 59 ae x34.length af) :: (K6m20 by_)) qu) => ?_
     refine D_run [7, 8, 9] [9, 8, 7, 6, 5, 4, 3, 2, 1, 0] [67, 66, 65, 60, 59, 11, 6, 5] (K6m22 by_ x64 at_ x34 ae af) (fun _ _ _ _ _ h => h) l5 (PlOk.peek fb.plOk fb 0 3 rfl rfl e3 (K6c1 x64) (f7 _)) (by kernel_rfl) (by rfl) (by kernel_rfl) fun tg l6 => ?_
     obtain ⟨x68, ex68, ao⟩ := bnd ao
     refine Dl 10 fun K hK => ?_
     refine wc [.agg (K6c1 x64), .c (.int .i64 (Int.tmod (IntKind.i64.wrap (Int.tdiv (IntKind.i64.wrap by_.n) 2)) 20)), .c (.bool ((Int.tmod by_.n 2) == 0))] l6 fb (law_narrow_ok n fb.has x64 ((rep_pair rep_int rep_int) : rep a1 x64 _) (Int.tmod (IntKind.i64.wrap (Int.tdiv (IntKind.i64.wrap by_.n) 2)) 20) ((Int.tmod by_.n 2) == 0) ex68) fun um du r7 j8 gl dh => ?_
     replace a2 := a2.mono gl
     replace ba := ba.mono gl
     obtain ⟨_, rfl, ⟨_, _, rfl, rfl, rfl⟩⟩ := j8
     refine ⟨.one (.agg [.int .i64 x68.lo, .int .i64 x68.hi]), rfl, fun qv (l7 : Kn 174 (K6e4 b d f a9 at_ x34) ((tA 68 [.int .i64 x68.lo, .int .i64 x68.hi]) :: (K6m22 by_ x64 at_ x34 ae af)) qv) => hK _ _ (PlOk.peek dh.plOk dh 0 3 rfl rfl e3 (K6c1 x64) (f7 _)) ?_⟩
     obtain ⟨x69, ex69, ao⟩ := bnd ao
     obtain ⟨jg, jj, qn⟩ := idx_some ex69
     have gj := lt_of_idx jg jj
     obtain ⟨st, qi, k0⟩ := cells_get (sz := 2) rfl a2 qn
     obtain ⟨_, _, rfl, rfl, rfl⟩ := qi
     obtain ⟨bs, ia⟩ := row_addr dh (i := 0) rfl (b0 := 0 + (Int.tmod (IntKind.i64.wrap at_.n) ((x34.length : Nat) : Int) : Int).toNat * 2) (Nat.lt_of_lt_of_le (Nat.lt_add_of_pos_right (by decide)) (cells_fit (sz := 2) rfl a2 gj))
     have pi : Mem ⟨w, h, noX⟩ du (K6e9 b d f a9 at_ x34 bs) [⟨(K6c8 m r_ p o q g l), some 28⟩, ⟨(K6c3 s a y u z x aa), some 50⟩, ⟨(K6c7 ae x34 af r_ ai x38 aj g l), some 28⟩, ⟨[], none⟩, ⟨[], none⟩] [⟨ae, x34.length, af, 24, 2, ar, 0⟩, ⟨ai, x38.length, aj, 63, 3, (au ++ aw), 0⟩] r7 := dh.addPlc (cs := []) (fun j c hj => by simp at hj) rfl (by kernel_rfl) (by kernel_rfl)
     have s1 : ∀ (e : Env) k c, ([.int .i64 x69.lo, .int .i64 x69.hi] : List SC)[k]? = some c → (ar)[0 + (Int.tmod (IntKind.i64.wrap at_.n) ((x34.length : Nat) : Int) : Int).toNat * 2 + k]? = some (c.den e) := fun e k c hk => k0 k _ (map_get hk)
     refine D_index 11 (Int.tmod (IntKind.i64.wrap at_.n) ((x34.length : Nat) : Int)) [.int .i64 x69.lo, .int .i64 x69.hi] (fun _ _ _ _ _ h => h) rfl rfl (rfl) rfl (by decide) (by kernel_rfl) (by kernel_rfl) l7 (PlOk.peek dh.plOk dh 0 3 rfl rfl e3 (K6c1 x64) (f7 _)) (by rfl) (by rfl) (by rfl) ia (by rfl) jg jj (by kernel_rfl) fun hn (l8 : Kn 174 (K6e9 b d f a9 at_ x34 bs) ((tP 69 4 0) :: (tA 68 [.int .i64 x68.lo, .int .i64 x68.hi]) :: (K6m22 by_ x64 at_ x34 ae af)) hn) => ?_
     obtain ⟨ea, j6, ao⟩ := bnd ao
     obtain ⟨s7, s9, jl⟩ := upd_some j6
     refine D_sync 12 rfl (by kernel_rfl) (by decide) (rfl) (by kernel_rfl) fun K hK => ?_
     refine wp_storeRow 0 4 0 (0 + (Int.tmod (IntKind.i64.wrap at_.n) ((x34.length : Nat) : Int) : Int).toNat * 2) (.agg [.int .i64 x68.lo, .int .i64 x68.hi]) l8 pi rfl rfl (by rfl) (by rfl) rfl rfl ia rfl (by kernel_rfl) (cells_fit (sz := 2) rfl a2 gj) fun j2 l9 (pj : Mem ⟨w, h, noX⟩ du (K6e9 b d f a9 at_ x34 bs) [⟨(K6c8 m r_ p o q g l), some 28⟩, ⟨(K6c3 s a y u z x aa), some 50⟩, ⟨(K6c7 ae x34 af r_ ai x38 aj g l), some 28⟩, ⟨[], none⟩, ⟨[], none⟩] [⟨ae, x34.length, af, 24, 2, (ar.take (0 + (Int.tmod (IntKind.i64.wrap at_.n) ((x34.length : Nat) : Int) : Int).toNat * 2 + 0) ++ ([.int .i64 x68.lo, .int .i64 x68.hi] : List Value) ++ ar.drop (0 + (Int.tmod (IntKind.i64.wrap at_.n) ((x34.length : Nat) : Int) : Int).toNat * 2 + 0 + 2)), 0⟩, ⟨ai, x38.length, aj, 63, 3, (au ++ aw), 0⟩] j2) => ?_
     have k1 : Cells du ea (ar.take (0 + (Int.tmod (IntKind.i64.wrap at_.n) ((x34.length : Nat) : Int) : Int).toNat * 2 + 0) ++ ([.int .i64 x68.lo, .int .i64 x68.hi] : List Value) ++ ar.drop (0 + (Int.tmod (IntKind.i64.wrap at_.n) ((x34.length : Nat) : Int) : Int).toNat * 2 + 0 + 2)) := by rw [jl]; exact cells_set (sz := 2) rfl a2 gj ((rep_pair rep_int rep_int) : rep du (x68 : Rg) _)
     have je : x34.length = ea.length := by rw [jl]; simp
     have ma : Kn 174 [(b, 0), (d, 0), (f, 0), (a9, 0 + (Int.tmod (IntKind.i64.wrap at_.n) ((x34.length : Nat) : Int) : Int).toNat * 2), (bs, 0 + (Int.tmod (IntKind.i64.wrap at_.n) ((x34.length : Nat) : Int) : Int).toNat * 2)] [(69, .one (.c (.ptr 4 0))), (68, .one (.agg [.int .i64 x68.lo, .int .i64 x68.hi])), (67, .one (.c (.bool ((Int.tmod by_.n 2) == 0)))), (66, .one (.c (.int .i64 (Int.tmod (IntKind.i64.wrap (Int.tdiv (IntKind.i64.wrap by_.n) 2)) 20)))), (65, .one (.agg [.int .i64 x64.lo, .int .i64 x64.hi])), (60, .one (.c (.int .i64 (Int.tmod (IntKind.i64.wrap at_.n) ((x34.length : Nat) : Int))))), (59, .one (.c (.slice ae ea.length af))), (11, .one (.c (.ptr 2 0))), (6, .one (.c (.ptr 1 0))), (5, .one (.c (.ptr 0 0)))] hn := by rw [← je]; exact l9
     have pk : Mem ⟨w, h, noX⟩ du [(b, 0), (d, 0), (f, 0), (a9, 0 + (Int.tmod (IntKind.i64.wrap at_.n) ((x34.length : Nat) : Int) : Int).toNat * 2), (bs, 0 + (Int.tmod (IntKind.i64.wrap at_.n) ((x34.length : Nat) : Int) : Int).toNat * 2)] [⟨[.slice m r_.legs.length p, .int .i64 r_.turn.lo, .int .i64 r_.turn.hi, .slice o r_.buses.length q, .slice g r_.spares.length l, .int .i64 r_.unit, .int .i64 r_.gap, .int .i64 r_.fr, .int .i64 r_.to_], some 28⟩, ⟨[.slice s a.holds.length y, .slice u a.turns.length z, .slice x a.spares.length aa], some 50⟩, ⟨[.slice ae ea.length af, .int .i64 r_.turn.lo, .int .i64 r_.turn.hi, .slice ai x38.length aj, .slice g r_.spares.length l, .int .i64 r_.unit, .int .i64 r_.gap, .int .i64 r_.fr, .int .i64 r_.to_], some 28⟩, ⟨[], none⟩, ⟨[], none⟩] [⟨ae, ea.length, af, 24, 2, (ar.take (0 + (Int.tmod (IntKind.i64.wrap at_.n) ((x34.length : Nat) : Int) : Int).toNat * 2 + 0) ++ ([.int .i64 x68.lo, .int .i64 x68.hi] : List Value) ++ ar.drop (0 + (Int.tmod (IntKind.i64.wrap at_.n) ((x34.length : Nat) : Int) : Int).toNat * 2 + 0 + 2)), 0⟩, ⟨ai, x38.length, aj, 63, 3, (au ++ aw), 0⟩] j2 := by rw [← je]; exact pj
     refine hK _ _ ?_
     have mb : Kn 174 (K6e9 b d f a9 at_ x34 bs) [(tP 11 2 0), (tP 6 1 0), (tP 5 0 0)] hn := ma.kp
     refine wpG_end (by kernel_rfl) ?_
     obtain rfl := Option.some.inj ao
     exact Exists.intro ae ⟨af, (ar.take (0 + (Int.tmod (IntKind.i64.wrap at_.n) ((x34.length : Nat) : Int) : Int).toNat * 2 + 0) ++ ([.int .i64 x68.lo, .int .i64 x68.hi] : List Value) ++ ar.drop (0 + (Int.tmod (IntKind.i64.wrap at_.n) ((x34.length : Nat) : Int) : Int).toNat * 2 + 0 + 2)), ai, aj, (au ++ aw), _, _, rfl, ((mb.keep [11, 6, 5] (by rfl)).cut 3 (by kernel_rfl)), (pk.cutPl 3 (by kernel_rfl)), gl, k1, ba⟩
    ·
     rw [f0, cond_false] at ao
     refine wp_seq (wp_region_from (Rk 0 4 [(tB 70 ((Int.tmod which.n 3) == 1)), (tB 13 ((Int.tmod by_.n 2) == 0)), (tI 12 (Int.tmod (IntKind.i64.wrap (Int.tdiv (IntKind.i64.wrap by_.n) 2)) 20)), (tP 11 2 0), (tP 6 1 0), (tP 5 0 0), (3, .one (.c (.int .u8 at_.n)))] f9 av fun th ga => ?_))
     refine wf (wC (((Int.tmod which.n 3) == 1)) ga (fun f1 => ?_) (fun f1 => ?_))
     ·
      rw [f1, cond_true] at ao
      refine wp_region_from (Rk 0 4 [(tB 77 ((Int.tmod by_.n 2) == 0)), (tI 76 (Int.tmod (IntKind.i64.wrap (Int.tdiv (IntKind.i64.wrap by_.n) 2)) 20)), (tA 75 [.int .i64 r_.turn.lo, .int .i64 r_.turn.hi]), (tP 11 2 0), (tP 6 1 0), (tP 5 0 0)] ga av fun ti mc => ?_)
      obtain ⟨x78, ex78, ao⟩ := bnd ao
      refine wl fun K hK => ?_
      refine wc [.agg [.int .i64 r_.turn.lo, .int .i64 r_.turn.hi], .c (.int .i64 (Int.tmod (IntKind.i64.wrap (Int.tdiv (IntKind.i64.wrap by_.n) 2)) 20)), .c (.bool ((Int.tmod by_.n 2) == 0))] mc av (law_narrow_ok n av.has r_.turn ((rep_pair rep_int rep_int) : rep a1 r_.turn _) (Int.tmod (IntKind.i64.wrap (Int.tdiv (IntKind.i64.wrap by_.n) 2)) 20) ((Int.tmod by_.n 2) == 0) ex78) fun un ko u4 j9 gm ix => ?_
      replace a2 := a2.mono gm
      replace ba := ba.mono gm
      obtain ⟨_, rfl, ⟨_, _, rfl, rfl, rfl⟩⟩ := j9
      refine ⟨.one (.agg [.int .i64 x78.lo, .int .i64 x78.hi]), rfl, fun qw (md : Kn 174 [(b, 0), (d, 0), (f, 0)] [(tA 78 [.int .i64 x78.lo, .int .i64 x78.hi]), (tB 77 ((Int.tmod by_.n 2) == 0)), (tI 76 (Int.tmod (IntKind.i64.wrap (Int.tdiv (IntKind.i64.wrap by_.n) 2)) 20)), (tA 75 [.int .i64 r_.turn.lo, .int .i64 r_.turn.hi]), (tP 11 2 0), (tP 6 1 0), (tP 5 0 0)] qw) => hK _ _ ?_⟩
      refine Rk 5 1 [(tP 79 2 1), (tA 78 [.int .i64 x78.lo, .int .i64 x78.hi]), (tP 11 2 0), (tP 6 1 0), (tP 5 0 0)] md ix fun qx me => ?_
      refine wl fun K hK => ?_
      refine wst 2 1 (.agg [.int .i64 x78.lo, .int .i64 x78.hi]) [.slice ae x34.length af, .int .i64 x78.lo, .int .i64 x78.hi, .slice ai x38.length aj, .slice g r_.spares.length l, .int .i64 r_.unit, .int .i64 r_.gap, .int .i64 r_.fr, .int .i64 r_.to_] me ix fun r8 mf (pl : Mem ⟨w, h, noX⟩ ko [(b, 0), (d, 0), (f, 0)] [⟨(K6c8 m r_ p o q g l), some 28⟩, ⟨(K6c3 s a y u z x aa), some 50⟩, ⟨[.slice ae x34.length af, .int .i64 x78.lo, .int .i64 x78.hi, .slice ai x38.length aj, .slice g r_.spares.length l, .int .i64 r_.unit, .int .i64 r_.gap, .int .i64 r_.fr, .int .i64 r_.to_], some 28⟩] [⟨ae, x34.length, af, 24, 2, ar, 0⟩, ⟨ai, x38.length, aj, 63, 3, (au ++ aw), 0⟩] r8) => hK _ _ ?_
      have mg : Kn 174 [(b, 0), (d, 0), (f, 0)] [(tP 11 2 0), (tP 6 1 0), (tP 5 0 0)] qx := mf.kp
      refine wf ?_
      obtain rfl := Option.some.inj ao
      exact Exists.intro ae ⟨af, ar, ai, aj, (au ++ aw), _, _, rfl, mg.kp, pl, gm, a2, ba⟩
     ·
      rw [f1, cond_false] at ao
      refine wp_seq (wp_region_from (Rk 0 5 [(tB 80 (decide (((x38.length : Nat) : Int) > 0))), (tB 13 ((Int.tmod by_.n 2) == 0)), (tI 12 (Int.tmod (IntKind.i64.wrap (Int.tdiv (IntKind.i64.wrap by_.n) 2)) 20)), (tP 11 2 0), (tP 6 1 0), (tP 5 0 0), (3, .one (.c (.int .u8 at_.n)))] ga av fun tj gb => ?_))
      refine wf (wC (decide (((x38.length : Nat) : Int) > 0)) gb (fun f2 => ?_) (fun f2 => ?_))
      ·
       rw [f2, cond_true] at ao
       refine wp_seq (wp_region_G (by kernel_rfl) ?_)
       replace av := av.drew
       refine wpG_of_D [] [(b, 0), (d, 0), (f, 0)] [⟨(K6c8 m r_ p o q g l), some 28⟩, ⟨(K6c3 s a y u z x aa), some 50⟩, ⟨(K6c7 ae x34 af r_ ai x38 aj g l), some 28⟩] ?_
       refine Dr [0, 1, 2, 3, 4, 5, 6] (dn 6) ((tI 91 ((x38.length : Nat) : Int)) :: (tI 88 (IntKind.i64.wrap at_.n)) :: (tS 86 ai x38.length aj) :: (K6m20 by_)) gb av fun tk mh => ?_
       obtain ⟨x92, ex92, ao⟩ := bnd ao
       refine D_rem 7 (fun _ _ _ _ _ h => h) mh rfl rfl (rfl) rfl (by decide) (by kernel_rfl) (by kernel_rfl) av.plOk (by rfl) (by rfl) (nz_some ex92) fun qz (mi : Kn 174 [(b, 0), (d, 0), (f, 0)] ((tI 92 (Int.tmod (IntKind.i64.wrap at_.n) ((x38.length : Nat) : Int))) :: (tI 91 ((x38.length : Nat) : Int)) :: (tI 88 (IntKind.i64.wrap at_.n)) :: (tS 86 ai x38.length aj) :: (K6m20 by_)) qz) => ?_
       obtain ⟨x93, ex93, ao⟩ := bnd ao
       obtain ⟨jh, jk, qo⟩ := idx_some ex93
       have gk := lt_of_idx jh jk
       obtain ⟨su, qj, k2⟩ := cells_get (sz := 3) rfl ba qo
       obtain ⟨_, _, rfl, rfl, ⟨_, _, rfl, rfl, rfl⟩⟩ := qj
       obtain ⟨bn, dy⟩ := row_addr av (i := 1) rfl (b0 := 0 + (Int.tmod (IntKind.i64.wrap at_.n) ((x38.length : Nat) : Int) : Int).toNat * 3) (Nat.lt_of_lt_of_le (Nat.lt_add_of_pos_right (by decide)) (cells_fit (sz := 3) rfl ba gk))
       have di : Mem ⟨w, h, noX⟩ a1 (K6e5 b d f bn at_ x38) [⟨(K6c8 m r_ p o q g l), some 28⟩, ⟨(K6c3 s a y u z x aa), some 50⟩, ⟨(K6c7 ae x34 af r_ ai x38 aj g l), some 28⟩, ⟨[], none⟩] [⟨ae, x34.length, af, 24, 2, ar, 0⟩, ⟨ai, x38.length, aj, 63, 3, (au ++ aw), 0⟩] (World.drew hy) := av.addPlc (cs := []) (fun j c hj => by simp at hj) rfl (by kernel_rfl) (by kernel_rfl)
       have e4 : ∀ (e : Env) k c, ([.int .i64 x93.stop, .int .i64 x93.tm.lo, .int .i64 x93.tm.hi] : List SC)[k]? = some c → ((au ++ aw))[0 + (Int.tmod (IntKind.i64.wrap at_.n) ((x38.length : Nat) : Int) : Int).toNat * 3 + k]? = some (c.den e) := fun e k c hk => k2 k _ (map_get hk)
       refine D_index 8 (Int.tmod (IntKind.i64.wrap at_.n) ((x38.length : Nat) : Int)) (K6c2 x93) (fun _ _ _ _ _ h => h) rfl rfl (rfl) rfl (by decide) (by kernel_rfl) (by kernel_rfl) mi av.plOk (by rfl) (by rfl) (by rfl) dy (by rfl) jh jk (by kernel_rfl) fun q0 (ml : Kn 174 (K6e5 b d f bn at_ x38) ((tP 93 3 0) :: (tI 92 (Int.tmod (IntKind.i64.wrap at_.n) ((x38.length : Nat) : Int))) :: (tI 91 ((x38.length : Nat) : Int)) :: (tI 88 (IntKind.i64.wrap at_.n)) :: (tS 86 ai x38.length aj) :: (K6m20 by_)) q0) => ?_
       refine D_run [9] [9, 8, 7, 6, 5, 4, 3, 2, 1, 0] [15, 13, 12, 11, 6, 5] ((tP 15 3 0) :: (K6m20 by_)) (fun _ _ _ _ _ h => h) ml (PlOk.peek di.plOk di 1 3 rfl rfl dy (K6c2 x93) (e4 _)) (by kernel_rfl) (by rfl) (by kernel_rfl) fun tl mm => ?_
       refine wpD_end (by kernel_rfl) (wp_region_from (R_runk 0 7 [100, 99, 98, 94, 11, 6, 5] [(tB 100 ((Int.tmod by_.n 2) == 0)), (tI 99 (Int.tmod (IntKind.i64.wrap (Int.tdiv (IntKind.i64.wrap by_.n) 2)) 20)), (tA 98 [.int .i64 x93.tm.lo, .int .i64 x93.tm.hi]), (tP 94 3 0), (tP 11 2 0), (tP 6 1 0), (tP 5 0 0)] mm (PlOk.peek di.plOk di 1 3 rfl rfl dy (K6c2 x93) (e4 _)) (by kernel_rfl) fun tn mn => ?_))
       obtain ⟨x101, ex101, ao⟩ := bnd ao
       refine wl fun K hK => ?_
       refine wc [.agg [.int .i64 x93.tm.lo, .int .i64 x93.tm.hi], .c (.int .i64 (Int.tmod (IntKind.i64.wrap (Int.tdiv (IntKind.i64.wrap by_.n) 2)) 20)), .c (.bool ((Int.tmod by_.n 2) == 0))] mn di (law_narrow_ok n di.has x93.tm ((rep_pair rep_int rep_int) : rep a1 x93.tm _) (Int.tmod (IntKind.i64.wrap (Int.tdiv (IntKind.i64.wrap by_.n) 2)) 20) ((Int.tmod by_.n 2) == 0) ex101) fun uo e2 u5 ka gn gr => ?_
       replace a2 := a2.mono gn
       replace ba := ba.mono gn
       obtain ⟨_, rfl, ⟨_, _, rfl, rfl, rfl⟩⟩ := ka
       refine ⟨.one (.agg [.int .i64 x101.lo, .int .i64 x101.hi]), rfl, fun q1 (mo : Kn 174 (K6e5 b d f bn at_ x38) [(tA 101 [.int .i64 x101.lo, .int .i64 x101.hi]), (tB 100 ((Int.tmod by_.n 2) == 0)), (tI 99 (Int.tmod (IntKind.i64.wrap (Int.tdiv (IntKind.i64.wrap by_.n) 2)) 20)), (tA 98 [.int .i64 x93.tm.lo, .int .i64 x93.tm.hi]), (tP 94 3 0), (tP 11 2 0), (tP 6 1 0), (tP 5 0 0)] q1) => hK _ _ ?_⟩
       refine R_runk 8 2 [103, 101, 11, 6, 5] [(tP 103 3 1), (tA 101 [.int .i64 x101.lo, .int .i64 x101.hi]), (tP 11 2 0), (tP 6 1 0), (tP 5 0 0)] mo (PlOk.peek gr.plOk gr 1 3 rfl rfl dy (K6c2 x93) (e4 _)) (by kernel_rfl) fun q2 mp => ?_
       obtain ⟨fj, j7, ao⟩ := bnd ao
       obtain ⟨s8, ta, jm⟩ := upd_some j7
       refine wl fun K hK => ?_
       refine wp_storeRow 1 3 1 (0 + (Int.tmod (IntKind.i64.wrap at_.n) ((x38.length : Nat) : Int) : Int).toNat * 3) (.agg [.int .i64 x101.lo, .int .i64 x101.hi]) mp gr rfl rfl (by rfl) (by rfl) rfl rfl dy rfl (by kernel_rfl) (cells_fitP (sz := 3) 1 2 rfl ba gk (Nat.le_of_ble_eq_true rfl)) fun j3 mq (pn : Mem ⟨w, h, noX⟩ e2 (K6e5 b d f bn at_ x38) [⟨(K6c8 m r_ p o q g l), some 28⟩, ⟨(K6c3 s a y u z x aa), some 50⟩, ⟨(K6c7 ae x34 af r_ ai x38 aj g l), some 28⟩, ⟨[], none⟩] [⟨ae, x34.length, af, 24, 2, ar, 0⟩, ⟨ai, x38.length, aj, 63, 3, ((au ++ aw).take (0 + (Int.tmod (IntKind.i64.wrap at_.n) ((x38.length : Nat) : Int) : Int).toNat * 3 + 1) ++ ([.int .i64 x101.lo, .int .i64 x101.hi] : List Value) ++ (au ++ aw).drop (0 + (Int.tmod (IntKind.i64.wrap at_.n) ((x38.length : Nat) : Int) : Int).toNat * 3 + 1 + 2)), 0⟩] j3) => ?_
       have k3 : Cells e2 fj ((au ++ aw).take (0 + (Int.tmod (IntKind.i64.wrap at_.n) ((x38.length : Nat) : Int) : Int).toNat * 3 + 1) ++ ([.int .i64 x101.lo, .int .i64 x101.hi] : List Value) ++ (au ++ aw).drop (0 + (Int.tmod (IntKind.i64.wrap at_.n) ((x38.length : Nat) : Int) : Int).toNat * 3 + 1 + 2)) := by rw [jm]; exact cells_setPart (sz := 3) (cs := [.int .i64 x93.stop, .int .i64 x93.tm.lo, .int .i64 x93.tm.hi]) [(b, 0), (d, 0), (f, 0), (bn, 0 + (Int.tmod (IntKind.i64.wrap at_.n) ((x38.length : Nat) : Int) : Int).toNat * 3)] 1 rfl ba gk (e4 _) rfl (Nat.le_of_ble_eq_true rfl) ((rep_pair rep_int (rep_pair rep_int rep_int)) : rep e2 ((Bus.mk x93.stop x101) : Bus) _)
       have pt : x38.length = fj.length := by rw [jm]; simp
       have mr := mq
       have po : Mem ⟨w, h, noX⟩ e2 [(b, 0), (d, 0), (f, 0), (bn, 0 + (Int.tmod (IntKind.i64.wrap at_.n) ((x38.length : Nat) : Int) : Int).toNat * 3)] [⟨[.slice m r_.legs.length p, .int .i64 r_.turn.lo, .int .i64 r_.turn.hi, .slice o r_.buses.length q, .slice g r_.spares.length l, .int .i64 r_.unit, .int .i64 r_.gap, .int .i64 r_.fr, .int .i64 r_.to_], some 28⟩, ⟨[.slice s a.holds.length y, .slice u a.turns.length z, .slice x a.spares.length aa], some 50⟩, ⟨[.slice ae x34.length af, .int .i64 r_.turn.lo, .int .i64 r_.turn.hi, .slice ai fj.length aj, .slice g r_.spares.length l, .int .i64 r_.unit, .int .i64 r_.gap, .int .i64 r_.fr, .int .i64 r_.to_], some 28⟩, ⟨[], none⟩] [⟨ae, x34.length, af, 24, 2, ar, 0⟩, ⟨ai, fj.length, aj, 63, 3, ((au ++ aw).take (0 + (Int.tmod (IntKind.i64.wrap at_.n) ((x38.length : Nat) : Int) : Int).toNat * 3 + 1) ++ ([.int .i64 x101.lo, .int .i64 x101.hi] : List Value) ++ (au ++ aw).drop (0 + (Int.tmod (IntKind.i64.wrap at_.n) ((x38.length : Nat) : Int) : Int).toNat * 3 + 1 + 2)), 0⟩] j3 := by rw [← pt]; exact pn
       refine hK _ _ ?_
       have ms : Kn 174 (K6e5 b d f bn at_ x38) [(tP 11 2 0), (tP 6 1 0), (tP 5 0 0)] q2 := mr.kp
       refine wf ?_
       obtain rfl := Option.some.inj ao
       exact Exists.intro ae ⟨af, ar, ai, aj, ((au ++ aw).take (0 + (Int.tmod (IntKind.i64.wrap at_.n) ((x38.length : Nat) : Int) : Int).toNat * 3 + 1) ++ ([.int .i64 x101.lo, .int .i64 x101.hi] : List Value) ++ (au ++ aw).drop (0 + (Int.tmod (IntKind.i64.wrap at_.n) ((x38.length : Nat) : Int) : Int).toNat * 3 + 1 + 2)), _, _, rfl, ((ms.keep [11, 6, 5] (by rfl)).cut 3 (by kernel_rfl)), (po.cutPl 3 (by kernel_rfl)), gn, a2, k3⟩
      ·
       rw [f2, cond_false] at ao
       refine wp_skip ?_
       obtain rfl := Option.some.inj ao
       exact Exists.intro ae ⟨af, ar, ai, aj, (au ++ aw), _, _, rfl, gb.kp, av, (Heap.le_refl _), a2, ba⟩
   ·
    rintro _ u6 ⟨ak, am, a8, al, an, bb, hl, db, rfl, mt, d4, de, ck, cl⟩
    replace aq := aq.mono de
    replace a0 := a0.mono de
    replace ax := ax.mono de
    refine wp_seq (wp_region_G (by kernel_rfl) ?_)
    replace d4 := d4.drew
    refine wpG_of_D [] [(b, 0), (d, 0), (f, 0)] [⟨(K6c8 m r_ p o q g l), some 28⟩, ⟨(K6c3 s a y u z x aa), some 50⟩, ⟨(K6c10 ak ab am al an g r_ l), some 28⟩] ?_
    refine Dr [0, 2] [2, 0] [(tA 107 (K6c3 s a y u z x aa)), (tA 105 (K6c8 m r_ p o q g l)), (tP 11 2 0), (tP 6 1 0), (tP 5 0 0)] mt d4 fun tp mu => ?_
    obtain ⟨x106, ex106, H⟩ := bnd H
    refine Dl 1 fun K hK => ?_
    refine wc [.agg (K6c8 m r_ p o q g l)] mu d4 (law_Route_ok n d4.has r_ ((rep_pair (rep_slice aq) (rep_pair (rep_pair rep_int rep_int) (rep_pair (rep_slice a0) (rep_pair (rep_slice ax) (rep_pair rep_int (rep_pair rep_int (rep_pair rep_int rep_int))))))) : rep db r_ _) ex106) fun uq kq u7 kb bv gs => ?_
    replace a3 := a3.mono (Heap.le_trans de bv)
    replace a4 := a4.mono (Heap.le_trans de bv)
    replace a5 := a5.mono (Heap.le_trans de bv)
    obtain ⟨_, rfl, ⟨_, _, rfl, ⟨b1, ca, rfl, g3⟩, ⟨_, _, rfl, ⟨_, _, rfl, rfl, rfl⟩, ⟨_, _, rfl, ⟨b2, cb, rfl, g4⟩, ⟨_, _, rfl, ⟨b3, cc, rfl, g5⟩, ⟨_, _, rfl, rfl, ⟨_, _, rfl, rfl, ⟨_, _, rfl, rfl, rfl⟩⟩⟩⟩⟩⟩⟩⟩ := kb
    refine ⟨.one (.agg (K6c11 b1 x106 ca b2 cb b3 cc)), rfl, fun q4 (mv : Kn 174 [(b, 0), (d, 0), (f, 0)] [(tA 106 (K6c11 b1 x106 ca b2 cb b3 cc)), (tA 107 (K6c3 s a y u z x aa)), (tA 105 (K6c8 m r_ p o q g l)), (tP 11 2 0), (tP 6 1 0), (tP 5 0 0)] q4) => hK _ _ gs.plOk ?_⟩
    obtain ⟨x108, ex108, H⟩ := bnd H
    refine Dl 3 fun K hK => ?_
    refine wc [.agg (K6c3 s a y u z x aa)] mv gs (law_Acts_ok n gs.has a ((rep_pair (rep_slice a3) (rep_pair (rep_slice a4) (rep_slice a5))) : rep kq a _) ex108) fun ur h7 u9 kc bh gu => ?_
    replace g3 := g3.mono bh
    replace g4 := g4.mono bh
    replace g5 := g5.mono bh
    obtain ⟨_, rfl, ⟨_, _, rfl, ⟨ee, er, rfl, py⟩, ⟨_, _, rfl, ⟨ef, es, rfl, pz⟩, ⟨eg, et, rfl, p0⟩⟩⟩⟩ := kc
    refine ⟨.one (.agg [.slice ee x108.holds.length er, .slice ef x108.turns.length es, .slice eg x108.spares.length et]), rfl, fun q5 (mx : Kn 174 [(b, 0), (d, 0), (f, 0)] [(tA 108 [.slice ee x108.holds.length er, .slice ef x108.turns.length es, .slice eg x108.spares.length et]), (tA 106 (K6c11 b1 x106 ca b2 cb b3 cc)), (tA 107 (K6c3 s a y u z x aa)), (tA 105 (K6c8 m r_ p o q g l)), (tP 11 2 0), (tP 6 1 0), (tP 5 0 0)] q5) => hK _ _ gu.plOk ?_⟩
    obtain ⟨x109, ex109, H⟩ := bnd H
    refine Dl 4 fun K hK => ?_
    refine wc [.agg (K6c11 b1 x106 ca b2 cb b3 cc), .agg [.slice ee x108.holds.length er, .slice ef x108.turns.length es, .slice eg x108.spares.length et]] mx gu (control_Worst_ok n gu.has x106 ((rep_pair (rep_slice g3) (rep_pair (rep_pair rep_int rep_int) (rep_pair (rep_slice g4) (rep_pair (rep_slice g5) (rep_pair rep_int (rep_pair rep_int (rep_pair rep_int rep_int))))))) : rep h7 x106 _) x108 ((rep_pair (rep_slice py) (rep_pair (rep_slice pz) (rep_slice p0))) : rep h7 x108 _) ex109) fun ut sx j4 kd bw cm => ?_
    obtain ⟨_, _, rfl, ⟨ac, ad, rfl, cp⟩, rfl⟩ := kd
    refine ⟨.tup [.c (.slice ac x109.1.length ad), .c (.int .i64 x109.2)], rfl, fun q6 (my : Kn 174 [(b, 0), (d, 0), (f, 0)] [(109, .tup [.c (.slice ac x109.1.length ad), .c (.int .i64 x109.2)]), (tA 108 [.slice ee x108.holds.length er, .slice ef x108.turns.length es, .slice eg x108.spares.length et]), (tA 106 (K6c11 b1 x106 ca b2 cb b3 cc)), (tA 107 (K6c3 s a y u z x aa)), (tA 105 (K6c8 m r_ p o q g l)), (tP 11 2 0), (tP 6 1 0), (tP 5 0 0)] q6) => hK _ _ cm.plOk ?_⟩
    refine Dr [5, 6, 7, 8, 9] [9, 8, 7, 6, 5, 4, 3, 1, 2, 0] [(tI 17 x109.2), (tS 16 ac x109.1.length ad), (tP 11 2 0), (tP 6 1 0), (tP 5 0 0)] my cm fun tr mz => ?_
    refine wpD_end (by kernel_rfl) (wp_seq (wp_region_G (by kernel_rfl) ?_))
    replace cm := cm.drew
    refine wpG_of_D [] [(b, 0), (d, 0), (f, 0)] [⟨(K6c8 m r_ p o q g l), some 28⟩, ⟨(K6c3 s a y u z x aa), some 50⟩, ⟨(K6c10 ak ab am al an g r_ l), some 28⟩] ?_
    refine Dr [0, 2] [2, 0] [(tA 115 (K6c3 s a y u z x aa)), (tA 113 (K6c10 ak ab am al an g r_ l)), (tI 17 x109.2), (tS 16 ac x109.1.length ad), (tP 11 2 0), (tP 5 0 0)] mz cm fun ts m1 => ?_
    obtain ⟨h8, bp, qa, fd⟩ := cm.settle (i := 0) rfl
    replace ck := ck.mono (Heap.le_trans (Heap.le_trans (Heap.le_trans bv bh) bw) bp)
    replace fd : Mem ⟨w, h, noX⟩ h8 [(b, 0), (d, 0), (f, 0)] [⟨(K6c8 m r_ p o q g l), some 28⟩, ⟨(K6c3 s a y u z x aa), some 50⟩, ⟨(K6c10 ak ab am al an g r_ l), some 28⟩] [⟨ak, ab.1.length, am, 24, 2, a8, (a8 : List Value).length⟩, ⟨al, ab.2.1.length, an, 63, 3, bb, 0⟩] (World.drew j4) := fd
    have bl : RepS h8 ak am ab.1 := ⟨_, ck, qa, cm.rowCap (i := 0) rfl⟩
    obtain ⟨fy, bk, qb, fe⟩ := fd.settle (i := 1) rfl
    replace ax := ax.mono (Heap.le_trans (Heap.le_trans (Heap.le_trans (Heap.le_trans bv bh) bw) bp) bk)
    replace bl := bl.mono bk
    replace cl := cl.mono (Heap.le_trans (Heap.le_trans (Heap.le_trans (Heap.le_trans bv bh) bw) bp) bk)
    replace fe : Mem ⟨w, h, noX⟩ fy [(b, 0), (d, 0), (f, 0)] [⟨(K6c8 m r_ p o q g l), some 28⟩, ⟨(K6c3 s a y u z x aa), some 50⟩, ⟨(K6c10 ak ab am al an g r_ l), some 28⟩] (K6r17 ak ab am a8 al an bb) (World.drew j4) := fe
    have bx : RepS fy al an ab.2.1 := ⟨_, cl, qb, fd.rowCap (i := 1) rfl⟩
    obtain ⟨x114, ex114, H⟩ := bnd H
    refine Dl 1 fun K hK => ?_
    refine wc [.agg (K6c10 ak ab am al an g r_ l)] m1 fe (law_Route_ok n fe.has (Route.mk ab.1 (Rg.mk ab.2.2.1 ab.2.2.2) ab.2.1 r_.spares r_.unit r_.gap r_.fr r_.to_) ((rep_pair (rep_slice bl) (rep_pair (rep_pair rep_int rep_int) (rep_pair (rep_slice bx) (rep_pair (rep_slice ax) (rep_pair rep_int (rep_pair rep_int (rep_pair rep_int rep_int))))))) : rep fy (Route.mk ab.1 (Rg.mk ab.2.2.1 ab.2.2.2) ab.2.1 r_.spares r_.unit r_.gap r_.fr r_.to_) _) ex114) fun uu kr va ke bi gv => ?_
    replace a3 := a3.mono (Heap.le_trans (Heap.le_trans (Heap.le_trans (Heap.le_trans bh bw) bp) bk) bi)
    replace a4 := a4.mono (Heap.le_trans (Heap.le_trans (Heap.le_trans (Heap.le_trans bh bw) bp) bk) bi)
    replace a5 := a5.mono (Heap.le_trans (Heap.le_trans (Heap.le_trans (Heap.le_trans bh bw) bp) bk) bi)
    obtain ⟨_, rfl, ⟨_, _, rfl, ⟨b4, cd, rfl, g6⟩, ⟨_, _, rfl, ⟨_, _, rfl, rfl, rfl⟩, ⟨_, _, rfl, ⟨b5, ce, rfl, g7⟩, ⟨_, _, rfl, ⟨b6, cf, rfl, g8⟩, ⟨_, _, rfl, rfl, ⟨_, _, rfl, rfl, ⟨_, _, rfl, rfl, rfl⟩⟩⟩⟩⟩⟩⟩⟩ := ke
    refine ⟨.one (.agg (K6c12 b4 x114 cd b5 ce b6 cf)), rfl, fun q7 (m3 : Kn 174 [(b, 0), (d, 0), (f, 0)] [(tA 114 (K6c12 b4 x114 cd b5 ce b6 cf)), (tA 115 (K6c3 s a y u z x aa)), (tA 113 (K6c10 ak ab am al an g r_ l)), (tI 17 x109.2), (tS 16 ac x109.1.length ad), (tP 11 2 0), (tP 5 0 0)] q7) => hK _ _ gv.plOk ?_⟩
    obtain ⟨x116, ex116, H⟩ := bnd H
    refine Dl 3 fun K hK => ?_
    refine wc [.agg (K6c3 s a y u z x aa)] m3 gv (law_Acts_ok n gv.has a ((rep_pair (rep_slice a3) (rep_pair (rep_slice a4) (rep_slice a5))) : rep kr a _) ex116) fun uv h9 vb kf a7 gw => ?_
    replace g6 := g6.mono a7
    replace g7 := g7.mono a7
    replace g8 := g8.mono a7
    obtain ⟨_, rfl, ⟨_, _, rfl, ⟨eh, eu, rfl, p1⟩, ⟨_, _, rfl, ⟨ei, ev, rfl, p2⟩, ⟨ej, ew, rfl, p3⟩⟩⟩⟩ := kf
    refine ⟨.one (.agg [.slice eh x116.holds.length eu, .slice ei x116.turns.length ev, .slice ej x116.spares.length ew]), rfl, fun q8 (m4 : Kn 174 [(b, 0), (d, 0), (f, 0)] [(tA 116 [.slice eh x116.holds.length eu, .slice ei x116.turns.length ev, .slice ej x116.spares.length ew]), (tA 114 (K6c12 b4 x114 cd b5 ce b6 cf)), (tA 115 (K6c3 s a y u z x aa)), (tA 113 (K6c10 ak ab am al an g r_ l)), (tI 17 x109.2), (tS 16 ac x109.1.length ad), (tP 11 2 0), (tP 5 0 0)] q8) => hK _ _ gw.plOk ?_⟩
    obtain ⟨x117, ex117, H⟩ := bnd H
    refine Dl 4 fun K hK => ?_
    refine wc [.agg (K6c12 b4 x114 cd b5 ce b6 cf), .agg [.slice eh x116.holds.length eu, .slice ei x116.turns.length ev, .slice ej x116.spares.length ew]] m4 gw (control_Worst_ok n gw.has x114 ((rep_pair (rep_slice g6) (rep_pair (rep_pair rep_int rep_int) (rep_pair (rep_slice g7) (rep_pair (rep_slice g8) (rep_pair rep_int (rep_pair rep_int (rep_pair rep_int rep_int))))))) : rep h9 x114 _) x116 ((rep_pair (rep_slice p1) (rep_pair (rep_slice p2) (rep_slice p3))) : rep h9 x116 _) ex117) fun ux ks vc kg bj d5 => ?_
    replace aq := aq.mono (Heap.le_trans (Heap.le_trans (Heap.le_trans (Heap.le_trans (Heap.le_trans (Heap.le_trans (Heap.le_trans bv bh) bw) bp) bk) bi) a7) bj)
    replace a0 := a0.mono (Heap.le_trans (Heap.le_trans (Heap.le_trans (Heap.le_trans (Heap.le_trans (Heap.le_trans (Heap.le_trans bv bh) bw) bp) bk) bi) a7) bj)
    replace ax := ax.mono (Heap.le_trans (Heap.le_trans bi a7) bj)
    obtain ⟨_, _, rfl, ⟨ag, ah, rfl, cq⟩, rfl⟩ := kg
    refine ⟨.tup [.c (.slice ag x117.1.length ah), .c (.int .i64 x117.2)], rfl, fun q9 (m5 : Kn 174 [(b, 0), (d, 0), (f, 0)] [(117, .tup [.c (.slice ag x117.1.length ah), .c (.int .i64 x117.2)]), (tA 116 [.slice eh x116.holds.length eu, .slice ei x116.turns.length ev, .slice ej x116.spares.length ew]), (tA 114 (K6c12 b4 x114 cd b5 ce b6 cf)), (tA 115 (K6c3 s a y u z x aa)), (tA 113 (K6c10 ak ab am al an g r_ l)), (tI 17 x109.2), (tS 16 ac x109.1.length ad), (tP 11 2 0), (tP 5 0 0)] q9) => hK _ _ d5.plOk ?_⟩
    refine Dr [5, 6, 7, 8, 9] [9, 8, 7, 6, 5, 4, 3, 1, 2, 0] [(tI 19 x117.2), (tS 18 ag x117.1.length ah), (tI 17 x109.2), (tS 16 ac x109.1.length ad), (tP 11 2 0), (tP 5 0 0)] m5 d5 fun tu m6 => ?_
    refine wpD_end (by kernel_rfl) (wp_seq (wp_region_from (Rk 0 1 [(tA 121 (K6c8 m r_ p o q g l)), (tI 19 x117.2), (tS 18 ag x117.1.length ah), (tI 17 x109.2), (tS 16 ac x109.1.length ad), (tP 11 2 0)] m6 d5 fun tv m7 => ?_)))
    obtain ⟨x122, ex122, H⟩ := bnd H
    refine wl fun K hK => ?_
    refine wc [.agg (K6c8 m r_ p o q g l)] m7 d5 (law_Route_ok n d5.has r_ ((rep_pair (rep_slice aq) (rep_pair (rep_pair rep_int rep_int) (rep_pair (rep_slice a0) (rep_pair (rep_slice ax) (rep_pair rep_int (rep_pair rep_int (rep_pair rep_int rep_int))))))) : rep ks r_ _) ex122) fun uy kt ve ki bc iy => ?_
    obtain ⟨_, rfl, ⟨_, _, rfl, ⟨ct, c2, rfl, p4⟩, ⟨_, _, rfl, ⟨_, _, rfl, rfl, rfl⟩, ⟨_, _, rfl, ⟨cu, c3, rfl, p5⟩, ⟨_, _, rfl, ⟨cv, c4, rfl, p6⟩, ⟨_, _, rfl, rfl, ⟨_, _, rfl, rfl, ⟨_, _, rfl, rfl, rfl⟩⟩⟩⟩⟩⟩⟩⟩ := ki
    refine ⟨.one (.agg (K6c13 ct x122 c2 cu c3 cv c4)), rfl, fun ra (m8 : Kn 174 [(b, 0), (d, 0), (f, 0)] [(tA 122 (K6c13 ct x122 c2 cu c3 cv c4)), (tA 121 (K6c8 m r_ p o q g l)), (tI 19 x117.2), (tS 18 ag x117.1.length ah), (tI 17 x109.2), (tS 16 ac x109.1.length ad), (tP 11 2 0)] ra) => hK _ _ ?_⟩
    obtain ⟨x123, ex123, H⟩ := bnd H
    refine wl fun K hK => ?_
    refine wc [.agg (K6c13 ct x122 c2 cu c3 cv c4)] m8 iy (control_Least_ok n iy.has x122 ((rep_pair (rep_slice p4) (rep_pair (rep_pair rep_int rep_int) (rep_pair (rep_slice p5) (rep_pair (rep_slice p6) (rep_pair rep_int (rep_pair rep_int (rep_pair rep_int rep_int))))))) : rep kt x122 _) ex123) fun uz ku vf kj bd ff => ?_
    replace ax := ax.mono (Heap.le_trans bc bd)
    replace bl := bl.mono (Heap.le_trans (Heap.le_trans (Heap.le_trans (Heap.le_trans bi a7) bj) bc) bd)
    replace bx := bx.mono (Heap.le_trans (Heap.le_trans (Heap.le_trans (Heap.le_trans bi a7) bj) bc) bd)
    obtain ⟨_, _, rfl, rfl, rfl⟩ := kj
    refine ⟨.tup [.c (.int .i64 x123.1), .c (.int .i64 x123.2)], rfl, fun rb (m9 : Kn 174 [(b, 0), (d, 0), (f, 0)] [(123, .tup [.c (.int .i64 x123.1), .c (.int .i64 x123.2)]), (tA 122 (K6c13 ct x122 c2 cu c3 cv c4)), (tA 121 (K6c8 m r_ p o q g l)), (tI 19 x117.2), (tS 18 ag x117.1.length ah), (tI 17 x109.2), (tS 16 ac x109.1.length ad), (tP 11 2 0)] rb) => hK _ _ ?_⟩
    refine Rk 3 5 [(tI 21 x123.2), (tI 20 x123.1), (tI 19 x117.2), (tS 18 ag x117.1.length ah), (tI 17 x109.2), (tS 16 ac x109.1.length ad), (tP 11 2 0)] m9 ff fun tw na => ?_
    refine wf (wp_seq (wp_region_from (Rk 0 1 [(tA 127 (K6c10 ak ab am al an g r_ l)), (tI 21 x123.2), (tI 20 x123.1), (tI 19 x117.2), (tS 18 ag x117.1.length ah), (tI 17 x109.2), (tS 16 ac x109.1.length ad)] na ff fun tx nb => ?_)))
    obtain ⟨x128, ex128, H⟩ := bnd H
    refine wl fun K hK => ?_
    refine wc [.agg (K6c10 ak ab am al an g r_ l)] nb ff (law_Route_ok n ff.has (Route.mk ab.1 (Rg.mk ab.2.2.1 ab.2.2.2) ab.2.1 r_.spares r_.unit r_.gap r_.fr r_.to_) ((rep_pair (rep_slice bl) (rep_pair (rep_pair rep_int rep_int) (rep_pair (rep_slice bx) (rep_pair (rep_slice ax) (rep_pair rep_int (rep_pair rep_int (rep_pair rep_int rep_int))))))) : rep ku (Route.mk ab.1 (Rg.mk ab.2.2.1 ab.2.2.2) ab.2.1 r_.spares r_.unit r_.gap r_.fr r_.to_) _) ex128) fun u0 kv vg kk be iz => ?_
    obtain ⟨_, rfl, ⟨_, _, rfl, ⟨cw, c5, rfl, p7⟩, ⟨_, _, rfl, ⟨_, _, rfl, rfl, rfl⟩, ⟨_, _, rfl, ⟨cx, c6, rfl, p8⟩, ⟨_, _, rfl, ⟨cy, c7, rfl, p9⟩, ⟨_, _, rfl, rfl, ⟨_, _, rfl, rfl, ⟨_, _, rfl, rfl, rfl⟩⟩⟩⟩⟩⟩⟩⟩ := kk
    refine ⟨.one (.agg (K6c14 cw x128 c5 cx c6 cy c7)), rfl, fun rd (nd : Kn 174 [(b, 0), (d, 0), (f, 0)] [(tA 128 (K6c14 cw x128 c5 cx c6 cy c7)), (tA 127 (K6c10 ak ab am al an g r_ l)), (tI 21 x123.2), (tI 20 x123.1), (tI 19 x117.2), (tS 18 ag x117.1.length ah), (tI 17 x109.2), (tS 16 ac x109.1.length ad)] rd) => hK _ _ ?_⟩
    obtain ⟨x129, ex129, H⟩ := bnd H
    refine wl fun K hK => ?_
    refine wc [.agg (K6c14 cw x128 c5 cx c6 cy c7)] nd iz (control_Least_ok n iz.has x128 ((rep_pair (rep_slice p7) (rep_pair (rep_pair rep_int rep_int) (rep_pair (rep_slice p8) (rep_pair (rep_slice p9) (rep_pair rep_int (rep_pair rep_int (rep_pair rep_int rep_int))))))) : rep kv x128 _) ex129) fun u1 kw vh kl bf ay => ?_
    replace aq := aq.mono (Heap.le_trans (Heap.le_trans (Heap.le_trans bc bd) be) bf)
    replace a0 := a0.mono (Heap.le_trans (Heap.le_trans (Heap.le_trans bc bd) be) bf)
    replace ax := ax.mono (Heap.le_trans be bf)
    replace a3 := a3.mono (Heap.le_trans (Heap.le_trans (Heap.le_trans (Heap.le_trans (Heap.le_trans a7 bj) bc) bd) be) bf)
    replace a4 := a4.mono (Heap.le_trans (Heap.le_trans (Heap.le_trans (Heap.le_trans (Heap.le_trans a7 bj) bc) bd) be) bf)
    replace a5 := a5.mono (Heap.le_trans (Heap.le_trans (Heap.le_trans (Heap.le_trans (Heap.le_trans a7 bj) bc) bd) be) bf)
    replace cp := cp.mono (Heap.le_trans (Heap.le_trans (Heap.le_trans (Heap.le_trans (Heap.le_trans (Heap.le_trans (Heap.le_trans (Heap.le_trans bp bk) bi) a7) bj) bc) bd) be) bf)
    replace bl := bl.mono (Heap.le_trans be bf)
    replace bx := bx.mono (Heap.le_trans be bf)
    replace cq := cq.mono (Heap.le_trans (Heap.le_trans (Heap.le_trans bc bd) be) bf)
    replace ck := ck.mono (Heap.le_trans (Heap.le_trans (Heap.le_trans (Heap.le_trans (Heap.le_trans (Heap.le_trans (Heap.le_trans bk bi) a7) bj) bc) bd) be) bf)
    replace cl := cl.mono (Heap.le_trans (Heap.le_trans (Heap.le_trans (Heap.le_trans (Heap.le_trans (Heap.le_trans bi a7) bj) bc) bd) be) bf)
    obtain ⟨_, _, rfl, rfl, rfl⟩ := kl
    refine ⟨.tup [.c (.int .i64 x129.1), .c (.int .i64 x129.2)], rfl, fun re (nf : Kn 174 [(b, 0), (d, 0), (f, 0)] [(129, .tup [.c (.int .i64 x129.1), .c (.int .i64 x129.2)]), (tA 128 (K6c14 cw x128 c5 cx c6 cy c7)), (tA 127 (K6c10 ak ab am al an g r_ l)), (tI 21 x123.2), (tI 20 x123.1), (tI 19 x117.2), (tS 18 ag x117.1.length ah), (tI 17 x109.2), (tS 16 ac x109.1.length ad)] re) => hK _ _ ?_⟩
    refine Rk 3 5 [(tI 23 x129.2), (tI 22 x129.1), (tI 21 x123.2), (tI 20 x123.1), (tI 19 x117.2), (tS 18 ag x117.1.length ah), (tI 17 x109.2), (tS 16 ac x109.1.length ad)] nf ay fun tz ng => ?_
    refine wf (wp_seq (wp_seq ?_))
    obtain ⟨js, az, H⟩ := bnd H
    refine wp_mid' (fun a' w' => ∃ (ho : Array Value) (dv : Heap), a' = ⟨ho, []⟩ ∧ Kn 174 [(b, 0), (d, 0), (f, 0)] [(tS 18 ag x117.1.length ah), (tS 16 ac x109.1.length ad), (tB 157 js)] ho ∧ Mem ⟨w, h, noX⟩ dv [(b, 0), (d, 0), (f, 0)] [⟨(K6c8 m r_ p o q g l), some 28⟩, ⟨(K6c3 s a y u z x aa), some 50⟩, ⟨(K6c10 ak ab am al an g r_ l), some 28⟩] (K6r17 ak ab am a8 al an bb) w' ∧ Heap.le kw dv) ?_ ?_
    ·
     refine wp_region_from (Rk 0 3 ((tB 134 (x109.2 != 0)) :: (tI 23 x129.2) :: (tI 22 x129.1) :: (tI 21 x123.2) :: (tI 20 x123.1) :: (tI 19 x117.2) :: (K6m19 ag x117 ah ac x109 ad)) ng ay fun jw ii => ?_)
     rcases Bool.eq_false_or_eq_true ((x109.2 != 0)) with dz | dz
     ·
      rw [dz, cond_true] at az
      have nh : Kn 174 [(b, 0), (d, 0), (f, 0)] ((tB 134 true) :: (tI 23 x129.2) :: (tI 22 x129.1) :: (tI 21 x123.2) :: (tI 20 x123.1) :: (tI 19 x117.2) :: (K6m19 ag x117 ah ac x109 ad)) jw := (ii.setB 134 true (by rfl) dz).kp
      refine Rk 3 23 ((tB 157 true) :: (K6m19 ag x117 ah ac x109 ad)) nh ay fun t0 ni => ?_
      refine wf ?_
      obtain rfl := Option.some.inj az
      exact Exists.intro _ ⟨_, rfl, ni.kp, ay, (Heap.le_refl _)⟩
     ·
      rw [dz, cond_false] at az
      have nj : Kn 174 [(b, 0), (d, 0), (f, 0)] ((tB 134 false) :: (tI 23 x129.2) :: (tI 22 x129.1) :: (tI 21 x123.2) :: (tI 20 x123.1) :: (tI 19 x117.2) :: (K6m19 ag x117 ah ac x109 ad)) jw := (ii.setB 134 false (by rfl) dz).kp
      refine Rk 3 4 ((tB 138 (x117.2 != 0)) :: (tI 23 x129.2) :: (tI 22 x129.1) :: (tI 21 x123.2) :: (tI 20 x123.1) :: (K6m19 ag x117 ah ac x109 ad)) nj ay fun jx ij => ?_
      rcases Bool.eq_false_or_eq_true ((x117.2 != 0)) with d0 | d0
      ·
       rw [d0, cond_true] at az
       have nk : Kn 174 [(b, 0), (d, 0), (f, 0)] ((tB 138 true) :: (tI 23 x129.2) :: (tI 22 x129.1) :: (tI 21 x123.2) :: (tI 20 x123.1) :: (K6m19 ag x117 ah ac x109 ad)) jx := (ij.setB 138 true (by rfl) d0).kp
       refine Rk 7 19 ((tB 157 true) :: (K6m19 ag x117 ah ac x109 ad)) nk ay fun t1 nl => ?_
       refine wf ?_
       obtain rfl := Option.some.inj az
       exact Exists.intro _ ⟨_, rfl, nl.kp, ay, (Heap.le_refl _)⟩
      ·
       rw [d0, cond_false] at az
       have nm : Kn 174 [(b, 0), (d, 0), (f, 0)] ((tB 138 false) :: (tI 23 x129.2) :: (tI 22 x129.1) :: (tI 21 x123.2) :: (tI 20 x123.1) :: (K6m19 ag x117 ah ac x109 ad)) jx := (ij.setB 138 false (by rfl) d0).kp
       refine Rk 7 4 ((tB 142 (x123.2 != 0)) :: (tI 23 x129.2) :: (tI 22 x129.1) :: (tI 20 x123.1) :: (K6m19 ag x117 ah ac x109 ad)) nm ay fun jy ik => ?_
       rcases Bool.eq_false_or_eq_true ((x123.2 != 0)) with d1 | d1
       ·
        rw [d1, cond_true] at az
        have nn : Kn 174 [(b, 0), (d, 0), (f, 0)] ((tB 142 true) :: (tI 23 x129.2) :: (tI 22 x129.1) :: (tI 20 x123.1) :: (K6m19 ag x117 ah ac x109 ad)) jy := (ik.setB 142 true (by rfl) d1).kp
        refine Rk 11 15 ((tB 157 true) :: (K6m19 ag x117 ah ac x109 ad)) nn ay fun t2 np => ?_
        refine wf ?_
        obtain rfl := Option.some.inj az
        exact Exists.intro _ ⟨_, rfl, np.kp, ay, (Heap.le_refl _)⟩
       ·
        rw [d1, cond_false] at az
        have nq : Kn 174 [(b, 0), (d, 0), (f, 0)] ((tB 142 false) :: (tI 23 x129.2) :: (tI 22 x129.1) :: (tI 20 x123.1) :: (K6m19 ag x117 ah ac x109 ad)) jy := (ik.setB 142 false (by rfl) d1).kp
        refine Rk 11 4 ((tB 146 (x129.2 != 0)) :: (tI 22 x129.1) :: (tI 20 x123.1) :: (K6m19 ag x117 ah ac x109 ad)) nq ay fun jz il => ?_
        rcases Bool.eq_false_or_eq_true ((x129.2 != 0)) with d2 | d2
        ·
         rw [d2, cond_true] at az
         have nr : Kn 174 [(b, 0), (d, 0), (f, 0)] ((tB 146 true) :: (tI 22 x129.1) :: (tI 20 x123.1) :: (K6m19 ag x117 ah ac x109 ad)) jz := (il.setB 146 true (by rfl) d2).kp
         refine Rk 15 11 ((tB 157 true) :: (K6m19 ag x117 ah ac x109 ad)) nr ay fun t3 ns => ?_
         refine wf ?_
         obtain rfl := Option.some.inj az
         exact Exists.intro _ ⟨_, rfl, ns.kp, ay, (Heap.le_refl _)⟩
        ·
         rw [d2, cond_false] at az
         have nt : Kn 174 [(b, 0), (d, 0), (f, 0)] ((tB 146 false) :: (tI 22 x129.1) :: (tI 20 x123.1) :: (K6m19 ag x117 ah ac x109 ad)) jz := (il.setB 146 false (by rfl) d2).kp
         refine Rk 15 7 ((tB 153 (((x109.1.length : Nat) : Int) != ((x117.1.length : Nat) : Int))) :: (tI 22 x129.1) :: (tI 20 x123.1) :: (K6m19 ag x117 ah ac x109 ad)) nt ay fun j0 im => ?_
         rcases Bool.eq_false_or_eq_true ((((x109.1.length : Nat) : Int) != ((x117.1.length : Nat) : Int))) with d3 | d3
         ·
          rw [d3, cond_true] at az
          have nu : Kn 174 [(b, 0), (d, 0), (f, 0)] ((tB 153 true) :: (tI 22 x129.1) :: (tI 20 x123.1) :: (K6m19 ag x117 ah ac x109 ad)) j0 := (im.setB 153 true (by rfl) d3).kp
          refine Rk 22 4 ((tB 157 true) :: (K6m19 ag x117 ah ac x109 ad)) nu ay fun t4 nv => ?_
          refine wf ?_
          obtain rfl := Option.some.inj az
          exact Exists.intro _ ⟨_, rfl, nv.kp, ay, (Heap.le_refl _)⟩
         ·
          rw [d3, cond_false] at az
          have nw : Kn 174 [(b, 0), (d, 0), (f, 0)] ((tB 153 false) :: (tI 22 x129.1) :: (tI 20 x123.1) :: (K6m19 ag x117 ah ac x109 ad)) j0 := (im.setB 153 false (by rfl) d3).kp
          refine Rk 22 4 ((tB 157 (decide (x129.1 > x123.1))) :: (K6m19 ag x117 ah ac x109 ad)) nw ay fun t5 nx => ?_
          refine wf ?_
          obtain rfl := Option.some.inj az
          exact Exists.intro _ ⟨_, rfl, nx.kp, ay, (Heap.le_refl _)⟩
    ·
     rintro _ vi ⟨ho, dv, rfl, gd, fg, bg⟩
     replace aq := aq.mono bg
     replace a0 := a0.mono bg
     replace ax := ax.mono bg
     replace a3 := a3.mono bg
     replace a4 := a4.mono bg
     replace a5 := a5.mono bg
     replace cp := cp.mono bg
     replace bl := bl.mono bg
     replace bx := bx.mono bg
     replace cq := cq.mono bg
     replace ck := ck.mono bg
     replace cl := cl.mono bg
     refine wC (js) gd (fun f4 => ?_) (fun f4 => ?_)
     ·
      rw [f4, cond_true] at H
      refine wp_seq (wp_region_from (Rk 0 1 [(tB 10 false)] gd fg fun t6 ny => ?_))
      refine wf (wp_ret ?_)
      obtain rfl := Option.some.inj H
      exact rt (.one (.c (.bool false))) ny fg rfl
     ·
      rw [f4, cond_false] at H
      refine wp_skip (wp_seq (wp_seq (wp_region_from (Rk 0 1 ((tI 24 0) :: (K6m19 ag x117 ah ac x109 ad)) gd fg fun t7 nz => ?_))))
      refine wf ?_
      obtain ⟨jt, h1, H⟩ := bnd H
      refine wp_mid' (fun a' w' => ∃ (jv : Unit) (hp : Array Value) (fz : Heap), a' = ⟨hp, []⟩ ∧ Kn 174 [(b, 0), (d, 0), (f, 0)] [] hp ∧ Mem ⟨w, h, noX⟩ fz [(b, 0), (d, 0), (f, 0)] [⟨(K6c8 m r_ p o q g l), some 28⟩, ⟨(K6c3 s a y u z x aa), some 50⟩, ⟨(K6c10 ak ab am al an g r_ l), some 28⟩] (K6r17 ak ab am a8 al an bb) w' ∧ Heap.le dv fz ∧ jt = .go jv) ?_ ?_
      ·
       refine wp_block ?_
       refine wp_loop_n (fun qr a' w' => ∃ (x_v10 : Int) (hq : Array Value) (dw : Heap), a' = ⟨hq, []⟩ ∧ Kn 174 [(b, 0), (d, 0), (f, 0)] ((tI 24 x_v10) :: (K6m19 ag x117 ah ac x109 ad)) hq ∧ Mem ⟨w, h, noX⟩ dw [(b, 0), (d, 0), (f, 0)] [⟨(K6c8 m r_ p o q g l), some 28⟩, ⟨(K6c3 s a y u z x aa), some 50⟩, ⟨(K6c10 ak ab am al an g r_ l), some 28⟩] (K6r17 ak ab am a8 al an bb) w' ∧ Heap.le dv dw ∧ law_ControlKnown_l1 qr x109 x117 x_v10 = some jt) n ?_ ?_
       ·
        exact Exists.intro 0 ⟨_, _, rfl, nz.kp, fg, (Heap.le_refl _), h1⟩
       ·
        rintro hg _ j5 ⟨x_v10, hq, dw, rfl, n0, cn, fa, a6⟩
        clear h1
        obtain _ | hg := hg
        ·
         rw [law_ControlKnown_l1] at a6; cases a6
        rw [law_ControlKnown_l1] at a6
        replace cp := cp.mono fa
        replace cq := cq.mono fa
        refine wp_seq (wp_seq (wp_region_from (Rk 0 4 ((tB 161 (decide (x_v10 < ((x109.1.length : Nat) : Int)))) :: (tI 24 x_v10) :: (K6m19 ag x117 ah ac x109 ad)) n0 cn fun t8 gf => ?_)))
        refine wf (wC (decide (x_v10 < ((x109.1.length : Nat) : Int))) gf (fun f5 => ?_) (fun f5 => ?_))
        ·
         rw [f5, cond_true] at a6
         refine wp_skip (wp_seq (wp_block (wp_seq (wp_region_G (by kernel_rfl) ?_))))
         replace cn := cn.drew
         refine wpG_of_D [] [(b, 0), (d, 0), (f, 0)] [⟨(K6c8 m r_ p o q g l), some 28⟩, ⟨(K6c3 s a y u z x aa), some 50⟩, ⟨(K6c10 ak ab am al an g r_ l), some 28⟩] ?_
         refine Dr [0, 1] [1, 0] ((tI 165 x_v10) :: (tS 164 ag x117.1.length ah) :: (tI 24 x_v10) :: (K6m19 ag x117 ah ac x109 ad)) gf cn fun t9 n1 => ?_
         obtain ⟨x166, ex166, a6⟩ := bnd a6
         obtain ⟨pu, pw, qp⟩ := idx_some ex166
         obtain ⟨ep, fi, sv, kx, qk, k4⟩ := cq.get (by decide) qp
         obtain rfl := qk
         have gx : Mem ⟨w, h, noX⟩ dw [(b, 0), (d, 0), (f, 0), (ep, fi + (x_v10 : Int).toNat * 1)] [⟨(K6c8 m r_ p o q g l), some 28⟩, ⟨(K6c3 s a y u z x aa), some 50⟩, ⟨(K6c10 ak ab am al an g r_ l), some 28⟩, ⟨[.int .i64 x166], none⟩] (K6r17 ak ab am a8 al an bb) (World.drew j5) := cn.addPlc (cs := [.int .i64 x166]) (fun j c hj => k4 j _ (map_get hj)) rfl (by kernel_rfl) (by kernel_rfl)
         refine D_index 2 (x_v10) [.int .i64 x166] (fun _ _ _ _ _ h => h) rfl rfl (rfl) rfl (by decide) (by kernel_rfl) (by kernel_rfl) n1 cn.plOk (by rfl) (by rfl) (by rfl) kx (by rfl) pu pw (by kernel_rfl) fun rf (n2 : Kn 174 [(b, 0), (d, 0), (f, 0), (ep, fi + (x_v10 : Int).toNat * 1)] ((tP 166 3 0) :: (tI 165 x_v10) :: (tS 164 ag x117.1.length ah) :: (tI 24 x_v10) :: (K6m19 ag x117 ah ac x109 ad)) rf) => ?_
         refine Dr [3, 4, 5] (dn 5) ((tI 169 x_v10) :: (tS 168 ac x109.1.length ad) :: (tI 167 x166) :: (tI 24 x_v10) :: (K6m19 ag x117 ah ac x109 ad)) n2 gx fun ua n3 => ?_
         obtain ⟨x170, ex170, a6⟩ := bnd a6
         obtain ⟨pv, px, qq⟩ := idx_some ex170
         obtain ⟨h0, ju, sw, ky, ql, k5⟩ := cp.get (by decide) qq
         obtain rfl := ql
         have d7 : Mem ⟨w, h, noX⟩ dw [(b, 0), (d, 0), (f, 0), (ep, fi + (x_v10 : Int).toNat * 1), (h0, ju + (x_v10 : Int).toNat * 1)] [⟨(K6c8 m r_ p o q g l), some 28⟩, ⟨(K6c3 s a y u z x aa), some 50⟩, ⟨(K6c10 ak ab am al an g r_ l), some 28⟩, ⟨[.int .i64 x166], none⟩, ⟨[.int .i64 x170], none⟩] (K6r17 ak ab am a8 al an bb) (World.drew j5) := gx.addPlc (cs := [.int .i64 x170]) (fun j c hj => k5 j _ (map_get hj)) rfl (by kernel_rfl) (by kernel_rfl)
         refine D_index 6 (x_v10) [.int .i64 x170] (fun _ _ _ _ _ h => h) rfl rfl (rfl) rfl (by decide) (by kernel_rfl) (by kernel_rfl) n3 gx.plOk (by rfl) (by rfl) (by rfl) ky (by rfl) pv px (by kernel_rfl) fun rh (n5 : Kn 174 [(b, 0), (d, 0), (f, 0), (ep, fi + (x_v10 : Int).toNat * 1), (h0, ju + (x_v10 : Int).toNat * 1)] ((tP 170 4 0) :: (tI 169 x_v10) :: (tS 168 ac x109.1.length ad) :: (tI 167 x166) :: (tI 24 x_v10) :: (K6m19 ag x117 ah ac x109 ad)) rh) => ?_
         refine Dr [7, 8] (dn 8) ((tB 172 (decide (x166 > x170))) :: (tI 24 x_v10) :: (K6m19 ag x117 ah ac x109 ad)) n5 d7 fun ub gg => ?_
         refine wpD_end (by kernel_rfl) (wC (decide (x166 > x170)) gg (fun f6 => ?_) (fun f6 => ?_))
         ·
          rw [f6, cond_true] at a6
          refine wp_seq (wp_region_from (Rk 0 1 [(tB 10 false)] gg d7 fun uc n6 => ?_))
          refine wf (wp_ret ?_)
          obtain rfl := Option.some.inj a6
          obtain rfl := Option.some.inj H
          exact rt (.one (.c (.bool false))) n6 d7 rfl
         ·
          rw [f6, cond_false] at a6
          refine wp_skip (wp_region_from (Rk 0 3 ((tI 24 (IntKind.i64.wrap (x_v10 + 1))) :: (K6m19 ag x117 ah ac x109 ad)) gg d7 fun ud n7 => ?_))
          refine wf ?_
          exact Exists.intro hg ⟨Nat.lt_succ_self _, Exists.intro (IntKind.i64.wrap (x_v10 + 1)) ⟨_, _, rfl, ((n7.keep [24, 18, 16] (by rfl)).cut 3 (by kernel_rfl)), (d7.cutPl 3 (by kernel_rfl)), fa, a6⟩⟩
        ·
         rw [f5, cond_false] at a6
         refine wp_exit ?_
         obtain rfl := Option.some.inj a6
         exact Exists.intro () ⟨_, _, rfl, gf.kp, cn, fa, rfl⟩
      ·
       rintro _ vk ⟨jv, hp, fz, rfl, n8, i1, s5, rfl⟩
       rw [Ex.bind_go] at H
       refine wp_seq (wp_region_from ?_)
       obtain ⟨x173, ex173, H⟩ := bnd H
       refine wl fun K hK => ?_
       refine wc [] n8 i1 (law_awake_ok n i1.has  ex173) fun u3 s0 vl kn s6 i2 => ?_
       obtain rfl := kn
       refine ⟨.one (.c (.bool x173)), rfl, fun ri (oa : Kn 174 [(b, 0), (d, 0), (f, 0)] [(tB 173 x173)] ri) => hK _ _ ?_⟩
       refine Rk 1 1 [(tB 10 x173)] oa i2 fun uf ob => ?_
       refine wf (wp_ret ?_)
       obtain rfl := Option.some.inj H
       exact rt (.one (.c (.bool x173))) ob i2 rfl
  refine D_share (fun W => ∀ (dq : Option Addr), ∀ (ds : Nat), ∀ (fk : List Value), ∀ (dr : Option Addr), ∀ (dt : Nat), ∀ (fl : List Value), ∀ a' w', (∃ (hr : Array Value) (dx : Heap), a' = ⟨hr, []⟩ ∧ Kn 174 [(b, 0), (d, 0), (f, 0)] ((tS 35 dr 0 dt) :: (tP 39 2 0) :: (tS 34 dq x34.length ds) :: (tP 36 0 3) :: (tP 11 2 0) :: (K6m18 which at_ by_)) hr ∧ Mem ⟨w, h, noX⟩ dx [(b, 0), (d, 0), (f, 0)] (K6p16 m r_ p o q g l s a y u z x aa) [⟨dq, x34.length, ds, 24, 2, fk, 0⟩, ⟨dr, 0, dt, 63, 3, fl, 0⟩] w' ∧ Heap.le ap dx ∧ Cells dx x34 fk ∧ Cells dx ([] : List Bus) fl) → W [(b, 0), (d, 0), (f, 0)] (K6p15 m r_ p o q g l s a y u z x aa) [8, 3, 0, 4, 5, 2, 1] a' w') ?_ (fun jn => ?_)
  ·
   intro dq ds fk dr dt fl
   rintro _ vm ⟨hr, dx, rfl, oc, gy, pf, k6, k7⟩
   refine Dl 6 fun K hK => ?_
   refine wp_quiet oc (PlOk.forget [2] gy.plOk) rfl (by decide) (by kernel_rfl) fun rj (od : Kn 174 [(b, 0), (d, 0), (f, 0)] ((tS 37 o r_.buses.length q) :: (tS 35 dr 0 dt) :: (tP 39 2 0) :: (tS 34 dq x34.length ds) :: (tP 36 0 3) :: (tP 11 2 0) :: (K6m18 which at_ by_)) rj) => hK _ _ (PlOk.forget [2] gy.plOk) ?_
   refine D_perm [8, 3, 0, 4, 6, 5, 2, 1] (by kernel_rfl) (by rfl) (hf dq ds fk dr dt fl _ _ ?_)
   exact Exists.intro _ ⟨_, rfl, od.kp, gy, pf, k6, k7⟩
  refine D_share (fun W => ∀ (cz : Option Addr), ∀ (c8 : Nat), ∀ (eb : List Value), ∀ a' w', (∃ (hs : Array Value) (dc : Heap), a' = ⟨hs, []⟩ ∧ Kn 174 [(b, 0), (d, 0), (f, 0)] ((tS 37 o r_.buses.length q) :: (tP 39 2 0) :: (tS 34 cz x34.length c8) :: (tP 11 2 0) :: (K6m18 which at_ by_)) hs ∧ Mem ⟨w, h, noX⟩ dc [(b, 0), (d, 0), (f, 0)] (K6p16 m r_ p o q g l s a y u z x aa) [⟨cz, x34.length, c8, 24, 2, eb, 0⟩, ⟨none, 0, 0, 63, 3, [], 0⟩] w' ∧ Heap.le ap dc ∧ Cells dc x34 eb) → W [(b, 0), (d, 0), (f, 0)] (K6p15 m r_ p o q g l s a y u z x aa) [8, 3, 0, 6, 5, 2, 1] a' w') ?_ (fun jo => ?_)
  ·
   intro cz c8 eb
   rintro _ vn ⟨hs, dc, rfl, og, pp, pg, k8⟩
   refine Dl 4 fun K hK => ?_
   refine wp_buildSlice_at 1 rfl rfl 63 3 [] og pp rfl rfl (by decide) (by kernel_rfl) (by rfl) (by rfl) rfl (by decide) fun fp rk sb (oh : Kn 174 [(b, 0), (d, 0), (f, 0)] ((tS 35 fp 0 0) :: (tS 37 o r_.buses.length q) :: (tP 39 2 0) :: (tS 34 cz x34.length c8) :: (tP 11 2 0) :: (K6m18 which at_ by_)) rk) (i3 : Mem ⟨w, h, noX⟩ dc [(b, 0), (d, 0), (f, 0)] (K6p16 m r_ p o q g l s a y u z x aa) [⟨cz, x34.length, c8, 24, 2, eb, 0⟩, ⟨fp, 0, 0, 63, 3, ([] : List Value), 0⟩] sb) => ?_
   have k9 : Cells dc ([] : List Bus) ([] : List Value) := Cells.nil
   refine hK _ _ (PlOk.forget [2] i3.plOk) ?_
   refine D_perm [8, 3, 0, 4, 6, 5, 2, 1] (by kernel_rfl) (by rfl) (hf cz c8 eb fp 0 ([] : List Value) _ _ ?_)
   exact Exists.intro _ ⟨_, rfl, oh.kp, i3, pg, k8, k9⟩
  refine D_share (fun W => ∀ (ek : Option Addr), ∀ (ex : Nat), ∀ (dl : List Value), ∀ (b7 : Option Addr), ∀ (cg : Nat), ∀ (ec : List Value), ∀ a' w', (∃ (ht : Array Value) (ci : Heap), a' = ⟨ht, []⟩ ∧ Kn 174 [(b, 0), (d, 0), (f, 0)] ((tS 37 o r_.buses.length q) :: (tS 35 b7 0 cg) :: (tS 31 ek 0 ex) :: (K6m21 m r_ p which at_ by_)) ht ∧ Mem ⟨w, h, noX⟩ ci [(b, 0), (d, 0), (f, 0)] (K6p16 m r_ p o q g l s a y u z x aa) [⟨ek, 0, ex, 24, 2, dl, 0⟩, ⟨b7, 0, cg, 63, 3, ec, 0⟩] w' ∧ Heap.le ap ci ∧ Cells ci ([] : List Rg) dl ∧ Cells ci ([] : List Bus) ec) → W [(b, 0), (d, 0), (f, 0)] (K6p15 m r_ p o q g l s a y u z x aa) [0, 4, 6, 5, 2, 1] a' w') ?_ (fun he => ?_)
  ·
   intro ek ex dl b7 cg ec
   rintro _ vo ⟨ht, ci, rfl, oi, i4, iv, la, lb⟩
   replace aq := aq.mono iv
   refine Dl 3 fun K hK => ?_
   obtain ⟨fm, e5, qc, _⟩ := id aq
   obtain ⟨g9, pa⟩ := app_some ex34
   refine wp_append 0 16 r_.legs.length _ (x34.length) _ fm oi i4 rfl rfl (by decide) rfl (by rfl) (by kernel_rfl) (by rfl) (by rfl) (Cells.len e5) (qc.cell i4.has e5.one) e5.one (by rw [g9]; simp) (by rw [g9]; exact pa) (by decide) fun el ey h2 rl sd lq (ok : Kn 174 [(b, 0), (d, 0), (f, 0)] ((tS 34 el x34.length ey) :: (tS 37 o r_.buses.length q) :: (tS 35 b7 0 cg) :: (tS 31 ek 0 ex) :: (K6m21 m r_ p which at_ by_)) rl) (gz : Mem ⟨w, h, noX⟩ ci [(b, 0), (d, 0), (f, 0)] (K6p16 m r_ p o q g l s a y u z x aa) [⟨el, x34.length, ey, 24, 2, (dl ++ fm), h2⟩, ⟨b7, 0, cg, 63, 3, ec, 0⟩] sd) => ?_
   have lc : Cells ci x34 (dl ++ fm) := by rw [g9]; exact Cells.append la e5
   obtain rfl : h2 = 0 := Nat.le_zero.1 lq
   refine hK _ _ (PlOk.forget [2] gz.plOk) ?_
   refine D_run [8] [8, 3, 0, 4, 6, 5, 2, 1] [39, 34, 37, 35, 11, 6, 5, 2, 3, 4] ((tP 39 2 0) :: (tS 34 el x34.length ey) :: (tS 37 o r_.buses.length q) :: (tS 35 b7 0 cg) :: (tP 11 2 0) :: (K6m18 which at_ by_)) (fun _ _ _ _ _ h => h) ok (PlOk.forget [2] gz.plOk) (by kernel_rfl) (by rfl) (by kernel_rfl) fun uh ol => ?_
   refine D_perm [8, 3, 0, 4, 6, 5, 2, 1] (by kernel_rfl) (by rfl) (hf el ey (dl ++ fm) b7 cg ec _ _ ?_)
   exact Exists.intro _ ⟨_, rfl, ol.kp, gz, iv, lc, lb⟩
  refine D_share (fun W => ∀ (c0 : Option Addr), ∀ (c9 : Nat), ∀ (cr : List Value), ∀ (bm : Option Addr), ∀ (bo : Nat), ∀ (dm : List Value), ∀ a' w', (∃ (hu : Array Value) (cj : Heap), a' = ⟨hu, []⟩ ∧ Kn 174 [(b, 0), (d, 0), (f, 0)] ((tS 35 bm 0 bo) :: (tS 31 c0 0 c9) :: (tP 36 0 3) :: (K6m21 m r_ p which at_ by_)) hu ∧ Mem ⟨w, h, noX⟩ cj [(b, 0), (d, 0), (f, 0)] (K6p16 m r_ p o q g l s a y u z x aa) [⟨c0, 0, c9, 24, 2, cr, 0⟩, ⟨bm, 0, bo, 63, 3, dm, 0⟩] w' ∧ Heap.le ap cj ∧ Cells cj ([] : List Rg) cr ∧ Cells cj ([] : List Bus) dm) → W [(b, 0), (d, 0), (f, 0)] (K6p15 m r_ p o q g l s a y u z x aa) [0, 4, 5, 2, 1] a' w') ?_ (fun jp => ?_)
  ·
   intro c0 c9 cr bm bo dm
   rintro _ vp ⟨hu, cj, rfl, io, d8, gp, ib, ic⟩
   replace aq := aq.mono gp
   refine D_two 3 6 rfl rfl (by kernel_rfl) (by decide) (rfl) (rfl) (fun K hK => ?_) (fun K hK => ?_)
   ·
    obtain ⟨fn, e6, qd, _⟩ := id aq
    obtain ⟨ha, pb⟩ := app_some ex34
    refine wp_append 0 16 r_.legs.length _ (x34.length) _ fn io d8 rfl rfl (by decide) rfl (by rfl) (by kernel_rfl) (by rfl) (by rfl) (Cells.len e6) (qd.cell d8.has e6.one) e6.one (by rw [ha]; simp) (by rw [ha]; exact pb) (by decide) fun em ez h3 rm se lr (oo : Kn 174 [(b, 0), (d, 0), (f, 0)] ((tS 34 em x34.length ez) :: (tS 35 bm 0 bo) :: (tS 31 c0 0 c9) :: (tP 36 0 3) :: (K6m21 m r_ p which at_ by_)) rm) (g0 : Mem ⟨w, h, noX⟩ cj [(b, 0), (d, 0), (f, 0)] (K6p16 m r_ p o q g l s a y u z x aa) [⟨em, x34.length, ez, 24, 2, (cr ++ fn), h3⟩, ⟨bm, 0, bo, 63, 3, dm, 0⟩] se) => ?_
    have ld : Cells cj x34 (cr ++ fn) := by rw [ha]; exact Cells.append ib e6
    obtain rfl : h3 = 0 := Nat.le_zero.1 lr
    refine hK _ _ (PlOk.forget [2] g0.plOk) ?_
    refine D_run [8] [8, 3, 0, 4, 5, 2, 1] [39, 34, 35, 36, 11, 6, 5, 2, 3, 4] ((tP 39 2 0) :: (tS 34 em x34.length ez) :: (tS 35 bm 0 bo) :: (tP 36 0 3) :: (tP 11 2 0) :: (K6m18 which at_ by_)) (fun _ _ _ _ _ h => h) oo (PlOk.forget [2] g0.plOk) (by kernel_rfl) (by rfl) (by kernel_rfl) fun ui op => ?_
    refine D_perm [8, 3, 0, 4, 5, 2, 1] (by kernel_rfl) (by rfl) (jn em ez (cr ++ fn) bm bo dm _ _ ?_)
    exact Exists.intro _ ⟨_, rfl, op.kp, g0, gp, ld, ic⟩
   ·
    refine wp_quiet io (PlOk.forget [2] d8.plOk) rfl (by decide) (by kernel_rfl) fun rn (oq : Kn 174 [(b, 0), (d, 0), (f, 0)] ((tS 37 o r_.buses.length q) :: (tS 35 bm 0 bo) :: (tS 31 c0 0 c9) :: (tP 36 0 3) :: (K6m21 m r_ p which at_ by_)) rn) => hK _ _ (PlOk.forget [2] d8.plOk) ?_
    refine D_perm [0, 4, 6, 5, 2, 1] (by kernel_rfl) (by rfl) (he c0 c9 cr bm bo dm _ _ ?_)
    exact Exists.intro _ ⟨_, rfl, oq.kp, d8, gp, ib, ic⟩
  refine D_share (fun W => ∀ (b8 : Option Addr), ∀ (ch : Nat), ∀ (bz : List Value), ∀ a' w', (∃ (hv : Array Value) (bu : Heap), a' = ⟨hv, []⟩ ∧ Kn 174 [(b, 0), (d, 0), (f, 0)] ((tS 37 o r_.buses.length q) :: (tS 31 b8 0 ch) :: (K6m21 m r_ p which at_ by_)) hv ∧ Mem ⟨w, h, noX⟩ bu [(b, 0), (d, 0), (f, 0)] (K6p16 m r_ p o q g l s a y u z x aa) [⟨b8, 0, ch, 24, 2, bz, 0⟩, ⟨none, 0, 0, 63, 3, [], 0⟩] w' ∧ Heap.le ap bu ∧ Cells bu ([] : List Rg) bz) → W [(b, 0), (d, 0), (f, 0)] (K6p15 m r_ p o q g l s a y u z x aa) [0, 6, 5, 2, 1] a' w') ?_ (fun jq => ?_)
  ·
   intro b8 ch bz
   rintro _ vq ⟨hv, bu, rfl, ip, g1, gq, ie⟩
   replace aq := aq.mono gq
   refine D_two 3 4 rfl rfl (by kernel_rfl) (by decide) (rfl) (rfl) (fun K hK => ?_) (fun K hK => ?_)
   ·
    obtain ⟨fo, e7, qe, _⟩ := id aq
    obtain ⟨hb, pc⟩ := app_some ex34
    refine wp_append 0 16 r_.legs.length _ (x34.length) _ fo ip g1 rfl rfl (by decide) rfl (by rfl) (by kernel_rfl) (by rfl) (by rfl) (Cells.len e7) (qe.cell g1.has e7.one) e7.one (by rw [hb]; simp) (by rw [hb]; exact pc) (by decide) fun en e0 h4 ro sf ls (ot : Kn 174 [(b, 0), (d, 0), (f, 0)] ((tS 34 en x34.length e0) :: (tS 37 o r_.buses.length q) :: (tS 31 b8 0 ch) :: (K6m21 m r_ p which at_ by_)) ro) (g2 : Mem ⟨w, h, noX⟩ bu [(b, 0), (d, 0), (f, 0)] (K6p16 m r_ p o q g l s a y u z x aa) [⟨en, x34.length, e0, 24, 2, (bz ++ fo), h4⟩, ⟨none, 0, 0, 63, 3, [], 0⟩] sf) => ?_
    have lf : Cells bu x34 (bz ++ fo) := by rw [hb]; exact Cells.append ie e7
    obtain rfl : h4 = 0 := Nat.le_zero.1 ls
    refine hK _ _ (PlOk.forget [2] g2.plOk) ?_
    refine D_run [8] [8, 3, 0, 6, 5, 2, 1] [39, 34, 37, 11, 6, 5, 2, 3, 4] ((tP 39 2 0) :: (tS 34 en x34.length e0) :: (tS 37 o r_.buses.length q) :: (tP 11 2 0) :: (K6m18 which at_ by_)) (fun _ _ _ _ _ h => h) ot (PlOk.forget [2] g2.plOk) (by kernel_rfl) (by rfl) (by kernel_rfl) fun uk ou => ?_
    refine D_perm [8, 3, 0, 6, 5, 2, 1] (by kernel_rfl) (by rfl) (jo en e0 (bz ++ fo) _ _ ?_)
    exact Exists.intro _ ⟨_, rfl, ou.kp, g2, gq, lf⟩
   ·
    refine wp_buildSlice_at 1 rfl rfl 63 3 [] ip g1 rfl rfl (by decide) (by kernel_rfl) (by rfl) (by rfl) rfl (by decide) fun fq rp sg (ov : Kn 174 [(b, 0), (d, 0), (f, 0)] ((tS 35 fq 0 0) :: (tS 37 o r_.buses.length q) :: (tS 31 b8 0 ch) :: (K6m21 m r_ p which at_ by_)) rp) (i5 : Mem ⟨w, h, noX⟩ bu [(b, 0), (d, 0), (f, 0)] (K6p16 m r_ p o q g l s a y u z x aa) [⟨b8, 0, ch, 24, 2, bz, 0⟩, ⟨fq, 0, 0, 63, 3, ([] : List Value), 0⟩] sg) => ?_
    have lg : Cells bu ([] : List Bus) ([] : List Value) := Cells.nil
    refine hK _ _ (PlOk.forget [2] i5.plOk) ?_
    refine D_perm [0, 4, 6, 5, 2, 1] (by kernel_rfl) (by rfl) (he b8 ch bz fq 0 ([] : List Value) _ _ ?_)
    exact Exists.intro _ ⟨_, rfl, ov.kp, i5, gq, ie, lg⟩
  refine D_share (fun W => ∀ (c1 : Option Addr), ∀ (da : Nat), ∀ (ed : List Value), ∀ a' w', (∃ (hw : Array Value) (dd : Heap), a' = ⟨hw, []⟩ ∧ Kn 174 [(b, 0), (d, 0), (f, 0)] ((tS 37 o r_.buses.length q) :: (tS 35 c1 0 da) :: (K6m21 m r_ p which at_ by_)) hw ∧ Mem ⟨w, h, noX⟩ dd [(b, 0), (d, 0), (f, 0)] (K6p16 m r_ p o q g l s a y u z x aa) [⟨none, 0, 0, 24, 2, [], 0⟩, ⟨c1, 0, da, 63, 3, ed, 0⟩] w' ∧ Heap.le ap dd ∧ Cells dd ([] : List Bus) ed) → W [(b, 0), (d, 0), (f, 0)] (K6p15 m r_ p o q g l s a y u z x aa) [4, 6, 5, 2, 1] a' w') ?_ (fun jr => ?_)
  ·
   intro c1 da ed
   rintro _ vr ⟨hw, dd, rfl, ow, ps, ph, lh⟩
   refine Dl 0 fun K hK => ?_
   refine wp_buildSlice_at 0 rfl rfl 24 2 [] ow ps rfl rfl (by decide) (by kernel_rfl) (by rfl) (by rfl) rfl (by decide) fun fs rq sh (ox : Kn 174 [(b, 0), (d, 0), (f, 0)] ((tS 31 fs 0 0) :: (tS 37 o r_.buses.length q) :: (tS 35 c1 0 da) :: (K6m21 m r_ p which at_ by_)) rq) (i6 : Mem ⟨w, h, noX⟩ dd [(b, 0), (d, 0), (f, 0)] (K6p16 m r_ p o q g l s a y u z x aa) [⟨fs, 0, 0, 24, 2, ([] : List Value), 0⟩, ⟨c1, 0, da, 63, 3, ed, 0⟩] sh) => ?_
   have li : Cells dd ([] : List Rg) ([] : List Value) := Cells.nil
   refine hK _ _ (PlOk.forget [2] i6.plOk) ?_
   refine D_perm [0, 4, 6, 5, 2, 1] (by kernel_rfl) (by rfl) (he fs 0 ([] : List Value) c1 da ed _ _ ?_)
   exact Exists.intro _ ⟨_, rfl, ox.kp, i6, ph, li, lh⟩
  refine D_three 0 4 6 rfl rfl rfl (by kernel_rfl) (by decide) (rfl) (rfl) (rfl) (fun K hK => ?_) (fun K hK => ?_) (fun K hK => ?_)
  ·
   refine wp_buildSlice_at 0 rfl rfl 24 2 [] gh dj rfl rfl (by decide) (by kernel_rfl) (by rfl) (by rfl) rfl (by decide) fun bq rr si (gi : Kn 174 [(b, 0), (d, 0), (f, 0)] ((tS 31 bq 0 0) :: (tP 36 0 3) :: (K6m21 m r_ p which at_ by_)) rr) (co : Mem ⟨w, h, noX⟩ ap [(b, 0), (d, 0), (f, 0)] (K6p16 m r_ p o q g l s a y u z x aa) [⟨bq, 0, 0, 24, 2, ([] : List Value), 0⟩, ⟨none, 0, 0, 63, 3, [], 0⟩] si) => ?_
   have f8 : Cells ap ([] : List Rg) ([] : List Value) := Cells.nil
   refine hK _ _ (PlOk.forget [2] co.plOk) ?_
   refine D_three 3 4 6 rfl rfl rfl (by kernel_rfl) (by decide) (rfl) (rfl) (rfl) (fun K hK => ?_) (fun K hK => ?_) (fun K hK => ?_)
   ·
    obtain ⟨dp, e8, qf, _⟩ := id aq
    obtain ⟨hc, pd⟩ := app_some ex34
    refine wp_append 0 16 r_.legs.length _ (x34.length) _ dp gi co rfl rfl (by decide) rfl (by rfl) (by kernel_rfl) (by rfl) (by rfl) (Cells.len e8) (qf.cell co.has e8.one) e8.one (by rw [hc]; simp) (by rw [hc]; exact pd) (by decide) fun br bt h5 rs sj lu (oy : Kn 174 [(b, 0), (d, 0), (f, 0)] ((tS 34 br x34.length bt) :: (tS 31 bq 0 0) :: (tP 36 0 3) :: (K6m21 m r_ p which at_ by_)) rs) (dk : Mem ⟨w, h, noX⟩ ap [(b, 0), (d, 0), (f, 0)] (K6p16 m r_ p o q g l s a y u z x aa) [⟨br, x34.length, bt, 24, 2, (([] : List Value) ++ dp), h5⟩, ⟨none, 0, 0, 63, 3, [], 0⟩] sj) => ?_
    have ig : Cells ap x34 (([] : List Value) ++ dp) := by rw [hc]; exact Cells.append f8 e8
    obtain rfl : h5 = 0 := Nat.le_zero.1 lu
    refine hK _ _ (PlOk.forget [2] dk.plOk) ?_
    refine D_run [8] [8, 3, 0, 5, 2, 1] [39, 34, 36, 11, 6, 5, 2, 3, 4] ((tP 39 2 0) :: (tS 34 br x34.length bt) :: (tP 36 0 3) :: (tP 11 2 0) :: (K6m18 which at_ by_)) (fun _ _ _ _ _ h => h) oy (PlOk.forget [2] dk.plOk) (by kernel_rfl) (by rfl) (by kernel_rfl) fun ul iq => ?_
    refine D_two 4 6 rfl rfl (by kernel_rfl) (by decide) (rfl) (rfl) (fun K hK => ?_) (fun K hK => ?_)
    ·
     refine wp_buildSlice_at 1 rfl rfl 63 3 [] iq dk rfl rfl (by decide) (by kernel_rfl) (by rfl) (by rfl) rfl (by decide) fun ft ru sk (oz : Kn 174 [(b, 0), (d, 0), (f, 0)] ((tS 35 ft 0 0) :: (tP 39 2 0) :: (tS 34 br x34.length bt) :: (tP 36 0 3) :: (tP 11 2 0) :: (K6m18 which at_ by_)) ru) (i7 : Mem ⟨w, h, noX⟩ ap [(b, 0), (d, 0), (f, 0)] (K6p16 m r_ p o q g l s a y u z x aa) [⟨br, x34.length, bt, 24, 2, (([] : List Value) ++ dp), 0⟩, ⟨ft, 0, 0, 63, 3, ([] : List Value), 0⟩] sk) => ?_
     have lj : Cells ap ([] : List Bus) ([] : List Value) := Cells.nil
     refine hK _ _ (PlOk.forget [2] i7.plOk) ?_
     refine D_perm [8, 3, 0, 4, 5, 2, 1] (by kernel_rfl) (by rfl) (jn br bt (([] : List Value) ++ dp) ft 0 ([] : List Value) _ _ ?_)
     exact Exists.intro _ ⟨_, rfl, oz.kp, i7, (Heap.le_refl _), ig, lj⟩
    ·
     refine wp_quiet iq (PlOk.forget [2] dk.plOk) rfl (by decide) (by kernel_rfl) fun rv (o0 : Kn 174 [(b, 0), (d, 0), (f, 0)] ((tS 37 o r_.buses.length q) :: (tP 39 2 0) :: (tS 34 br x34.length bt) :: (tP 36 0 3) :: (tP 11 2 0) :: (K6m18 which at_ by_)) rv) => hK _ _ (PlOk.forget [2] dk.plOk) ?_
     refine D_perm [8, 3, 0, 6, 5, 2, 1] (by kernel_rfl) (by rfl) (jo br bt (([] : List Value) ++ dp) _ _ ?_)
     exact Exists.intro _ ⟨_, rfl, o0.kp, dk, (Heap.le_refl _), ig⟩
   ·
    refine wp_buildSlice_at 1 rfl rfl 63 3 [] gi co rfl rfl (by decide) (by kernel_rfl) (by rfl) (by rfl) rfl (by decide) fun fu rx sl (o1 : Kn 174 [(b, 0), (d, 0), (f, 0)] ((tS 35 fu 0 0) :: (tS 31 bq 0 0) :: (tP 36 0 3) :: (K6m21 m r_ p which at_ by_)) rx) (i8 : Mem ⟨w, h, noX⟩ ap [(b, 0), (d, 0), (f, 0)] (K6p16 m r_ p o q g l s a y u z x aa) [⟨bq, 0, 0, 24, 2, ([] : List Value), 0⟩, ⟨fu, 0, 0, 63, 3, ([] : List Value), 0⟩] sl) => ?_
    have lk : Cells ap ([] : List Bus) ([] : List Value) := Cells.nil
    refine hK _ _ (PlOk.forget [2] i8.plOk) ?_
    refine D_perm [0, 4, 5, 2, 1] (by kernel_rfl) (by rfl) (jp bq 0 ([] : List Value) fu 0 ([] : List Value) _ _ ?_)
    exact Exists.intro _ ⟨_, rfl, o1.kp, i8, (Heap.le_refl _), f8, lk⟩
   ·
    refine wp_quiet gi (PlOk.forget [2] co.plOk) rfl (by decide) (by kernel_rfl) fun ry (o2 : Kn 174 [(b, 0), (d, 0), (f, 0)] ((tS 37 o r_.buses.length q) :: (tS 31 bq 0 0) :: (tP 36 0 3) :: (K6m21 m r_ p which at_ by_)) ry) => hK _ _ (PlOk.forget [2] co.plOk) ?_
    refine D_perm [0, 6, 5, 2, 1] (by kernel_rfl) (by rfl) (jq bq 0 ([] : List Value) _ _ ?_)
    exact Exists.intro _ ⟨_, rfl, o2.kp, co, (Heap.le_refl _), f8⟩
  ·
   refine wp_buildSlice_at 1 rfl rfl 63 3 [] gh dj rfl rfl (by decide) (by kernel_rfl) (by rfl) (by rfl) rfl (by decide) fun b9 rz sm (ir : Kn 174 [(b, 0), (d, 0), (f, 0)] ((tS 35 b9 0 0) :: (tP 36 0 3) :: (K6m21 m r_ p which at_ by_)) rz) (d9 : Mem ⟨w, h, noX⟩ ap [(b, 0), (d, 0), (f, 0)] (K6p16 m r_ p o q g l s a y u z x aa) [⟨none, 0, 0, 24, 2, [], 0⟩, ⟨b9, 0, 0, 63, 3, ([] : List Value), 0⟩] sm) => ?_
   have ih : Cells ap ([] : List Bus) ([] : List Value) := Cells.nil
   refine hK _ _ (PlOk.forget [2] d9.plOk) ?_
   refine D_two 0 6 rfl rfl (by kernel_rfl) (by decide) (rfl) (rfl) (fun K hK => ?_) (fun K hK => ?_)
   ·
    refine wp_buildSlice_at 0 rfl rfl 24 2 [] ir d9 rfl rfl (by decide) (by kernel_rfl) (by rfl) (by rfl) rfl (by decide) fun fv r0 sn (o3 : Kn 174 [(b, 0), (d, 0), (f, 0)] ((tS 31 fv 0 0) :: (tS 35 b9 0 0) :: (tP 36 0 3) :: (K6m21 m r_ p which at_ by_)) r0) (i9 : Mem ⟨w, h, noX⟩ ap [(b, 0), (d, 0), (f, 0)] (K6p16 m r_ p o q g l s a y u z x aa) [⟨fv, 0, 0, 24, 2, ([] : List Value), 0⟩, ⟨b9, 0, 0, 63, 3, ([] : List Value), 0⟩] sn) => ?_
    have ll : Cells ap ([] : List Rg) ([] : List Value) := Cells.nil
    refine hK _ _ (PlOk.forget [2] i9.plOk) ?_
    refine D_perm [0, 4, 5, 2, 1] (by kernel_rfl) (by rfl) (jp fv 0 ([] : List Value) b9 0 ([] : List Value) _ _ ?_)
    exact Exists.intro _ ⟨_, rfl, o3.kp, i9, (Heap.le_refl _), ll, ih⟩
   ·
    refine wp_quiet ir (PlOk.forget [2] d9.plOk) rfl (by decide) (by kernel_rfl) fun r1 (o4 : Kn 174 [(b, 0), (d, 0), (f, 0)] ((tS 37 o r_.buses.length q) :: (tS 35 b9 0 0) :: (tP 36 0 3) :: (K6m21 m r_ p which at_ by_)) r1) => hK _ _ (PlOk.forget [2] d9.plOk) ?_
    refine D_perm [4, 6, 5, 2, 1] (by kernel_rfl) (by rfl) (jr b9 0 ([] : List Value) _ _ ?_)
    exact Exists.intro _ ⟨_, rfl, o4.kp, d9, (Heap.le_refl _), ih⟩
  ·
   refine wp_quiet gh (PlOk.forget [2] dj.plOk) rfl (by decide) (by kernel_rfl) fun r2 (iu : Kn 174 [(b, 0), (d, 0), (f, 0)] ((tS 37 o r_.buses.length q) :: (tP 36 0 3) :: (K6m21 m r_ p which at_ by_)) r2) => hK _ _ (PlOk.forget [2] dj.plOk) ?_
   refine D_two 0 4 rfl rfl (by kernel_rfl) (by decide) (rfl) (rfl) (fun K hK => ?_) (fun K hK => ?_)
   ·
    refine wp_buildSlice_at 0 rfl rfl 24 2 [] iu dj rfl rfl (by decide) (by kernel_rfl) (by rfl) (by rfl) rfl (by decide) fun fw r3 sp (o5 : Kn 174 [(b, 0), (d, 0), (f, 0)] ((tS 31 fw 0 0) :: (tS 37 o r_.buses.length q) :: (tP 36 0 3) :: (K6m21 m r_ p which at_ by_)) r3) (ja : Mem ⟨w, h, noX⟩ ap [(b, 0), (d, 0), (f, 0)] (K6p16 m r_ p o q g l s a y u z x aa) [⟨fw, 0, 0, 24, 2, ([] : List Value), 0⟩, ⟨none, 0, 0, 63, 3, [], 0⟩] sp) => ?_
    have lm : Cells ap ([] : List Rg) ([] : List Value) := Cells.nil
    refine hK _ _ (PlOk.forget [2] ja.plOk) ?_
    refine D_perm [0, 6, 5, 2, 1] (by kernel_rfl) (by rfl) (jq fw 0 ([] : List Value) _ _ ?_)
    exact Exists.intro _ ⟨_, rfl, o5.kp, ja, (Heap.le_refl _), lm⟩
   ·
    refine wp_buildSlice_at 1 rfl rfl 63 3 [] iu dj rfl rfl (by decide) (by kernel_rfl) (by rfl) (by rfl) rfl (by decide) fun fx r4 sq (o6 : Kn 174 [(b, 0), (d, 0), (f, 0)] ((tS 35 fx 0 0) :: (tS 37 o r_.buses.length q) :: (tP 36 0 3) :: (K6m21 m r_ p which at_ by_)) r4) (jb : Mem ⟨w, h, noX⟩ ap [(b, 0), (d, 0), (f, 0)] (K6p16 m r_ p o q g l s a y u z x aa) [⟨none, 0, 0, 24, 2, [], 0⟩, ⟨fx, 0, 0, 63, 3, ([] : List Value), 0⟩] sq) => ?_
    have ln : Cells ap ([] : List Bus) ([] : List Value) := Cells.nil
    refine hK _ _ (PlOk.forget [2] jb.plOk) ?_
    refine D_perm [4, 6, 5, 2, 1] (by kernel_rfl) (by rfl) (jr fx 0 ([] : List Value) _ _ ?_)
    exact Exists.intro _ ⟨_, rfl, o6.kp, jb, (Heap.le_refl _), ln⟩
end Go.Proofs.Ytokchpjijlebiaa
