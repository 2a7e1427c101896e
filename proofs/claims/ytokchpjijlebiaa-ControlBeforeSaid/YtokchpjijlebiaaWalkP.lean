/- Each call computes its plain function: printed by dec.py. -/
import Derived.Test.YtokchpjijlebiaaProg
import Derived.Test.YtokchpjijlebiaaPure
set_option linter.all false
namespace Go.Proofs.Ytokchpjijlebiaa
open Go Go.RowKit
open Rep (rep)
open KRep (kv)
open VRep (rv)
set_option maxRecDepth 100000 in
set_option maxHeartbeats 4000000 in
theorem control_within_ok (n : Nat) {h : Heap} {w : World} (hh : Has h w) (n_ : Int) (low : Int) (high : Int) {r : Bool} (H : control_within n n_ low high = some r) :
  Calls Try.prog 84 #[.int .i64 n_, .int .i64 low, .int .i64 high] w (Ret (fun h v => v = .bool r) h w) := by
 refine enter 15 [.c (.int .i64 n_), .c (.int .i64 low), .c (.int .i64 high)] Try.func84 rfl rfl rfl rfl fun t hk => ?_
 have hm := Mem.begin h w hh
 unfold control_within at H
 refine wp_seq (wp_region_from (R_runk 0 1 [0, 1, 2] [(tI 0 n_), (tI 1 low), (tI 2 high)] hk hm.plOk (by kernel_rfl) fun k f => ?_))
 refine wpFrom_end (by decide) (wp_seq (wp_region_from (R_runk 0 4 [10, 0, 2] [(tB 10 (decide (low ≤ n_))), (tI 0 n_), (tI 2 high)] f hm.plOk (by kernel_rfl) fun d b => ?_)))
 rcases Bool.eq_false_or_eq_true (decide (low ≤ n_)) with a | a
 ·
  rw [a, cond_true] at H
  have g : Kn 15 [] [(tB 10 true), (tI 0 n_), (tI 2 high)] d := (b.setB 10 true (by rfl) a).keep [10, 0, 2] (by rfl)
  refine R_runk 4 5 [6] [(tB 6 (decide (n_ ≤ high)))] g hm.plOk (by kernel_rfl) fun m i => ?_
  refine wpFrom_end (by decide) (wp_ret ?_)
  obtain rfl := Option.some.inj H
  exact ret_ok (.one (.c (.bool (decide (n_ ≤ high))))) i hm (by kernel_rfl) rfl
 ·
  rw [a, cond_false] at H
  have j : Kn 15 [] [(tB 10 false), (tI 0 n_), (tI 2 high)] d := (b.setB 10 false (by rfl) a).keep [10, 0, 2] (by rfl)
  refine R_runk 4 5 [6] [(tB 6 false)] j hm.plOk (by kernel_rfl) fun l e => ?_
  refine wpFrom_end (by decide) (wp_ret ?_)
  obtain rfl := Option.some.inj H
  exact ret_ok (.one (.c (.bool false))) e hm (by kernel_rfl) rfl

set_option maxRecDepth 100000 in
set_option maxHeartbeats 4000000 in
theorem control_minute_ok (n : Nat) {h : Heap} {w : World} (hh : Has h w) (n_ : Int) {r : Bool} (H : control_minute n n_ = some r) :
  Calls Try.prog 78 #[.int .i64 n_] w (Ret (fun h v => v = .bool r) h w) := by
 refine enter 5 [.c (.int .i64 n_)] Try.func78 rfl rfl rfl rfl fun t hk => ?_
 have hm := Mem.begin h w hh
 unfold control_minute at H
 refine wp_seq (wp_region_from (R_runk 0 1 [0] [(tI 0 n_)] hk hm.plOk (by kernel_rfl) fun l f => ?_))
 refine wpFrom_end (by decide) (wp_seq (wp_region_from (R_runk 0 1 [3] [(tI 3 n_)] f hm.plOk (by kernel_rfl) fun o g => ?_)))
 obtain ⟨x4, ex4, H⟩ := bnd H
 refine wpFrom_loud _ rfl (rfl) fun K hK => ?_
 refine wp_call [.c (.int .i64 n_), .c (.int .i64 0), .c (.int .i64 2000)] _ g hm rfl rfl (by decide) (by rfl) rfl (fun _ _ => by kernel_rfl) (control_within_ok n hm.has n_ 0 2000 ex4) fun p j q b k a => ?_
 obtain rfl := b
 refine ⟨.one (.c (.bool x4)), rfl, fun i (d : Kn 5 [] [(tB 4 x4), (tI 3 n_)] i) => hK _ _ ?_⟩
 refine R_runk 2 1 [2] [(tB 2 x4)] d a.plOk (by kernel_rfl) fun m e => ?_
 refine wpFrom_end (by decide) (wp_ret ?_)
 obtain rfl := Option.some.inj H
 exact ret_ok (.one (.c (.bool x4))) e a (by kernel_rfl) rfl

abbrev K92c1 (a : Option Addr) (r_ : Route) (e : Nat) (b : Option Addr) (f : Nat) (d : Option Addr) (g : Nat) : List SC := [.slice a r_.legs.length e, .int .i64 r_.turn.lo, .int .i64 r_.turn.hi, .slice b r_.buses.length f, .slice d r_.spares.length g, .int .i64 r_.unit, .int .i64 r_.gap, .int .i64 r_.fr, .int .i64 r_.to_]
set_option maxRecDepth 100000 in
set_option maxHeartbeats 4000000 in
theorem control_Route_stops_ok (n : Nat) {h : Heap} {w : World} (hh : Has h w) (r_ : Route) {cs_r_ : List Value} (hx_r_ : rep h r_ cs_r_) {r : Int} (H : control_Route_stops n r_ = some r) :
  Calls Try.prog 92 #[.agg cs_r_.toArray] w (Ret (fun h v => v = .int .i64 r) h w) := by
 obtain ⟨_, _, rfl, ⟨a, e, rfl, q⟩, ⟨_, _, rfl, ⟨_, _, rfl, rfl, rfl⟩, ⟨_, _, rfl, ⟨b, f, rfl, s⟩, ⟨_, _, rfl, ⟨d, g, rfl, u⟩, ⟨_, _, rfl, rfl, ⟨_, _, rfl, rfl, ⟨_, _, rfl, rfl, rfl⟩⟩⟩⟩⟩⟩⟩ := hx_r_
 refine enter 7 [.agg (K92c1 a r_ e b f d g)] Try.func92 rfl rfl rfl rfl fun t hk => ?_
 have hm := Mem.begin h w hh
 unfold control_Route_stops at H
 refine wp_seq (wp_region_from (wpFrom_loud _ rfl (rfl) fun K hK => ?_))
 refine wp_box (.agg (K92c1 a r_ e b f d g)) hk hm rfl rfl (by decide) (by kernel_rfl) (by kernel_rfl) (by kernel_rfl) fun j o p (k : Kn 7 [(j, 0)] [(tP 1 0 0), (tA 0 (K92c1 a r_ e b f d g))] o) (i : Mem ⟨w, h, noX⟩ h [(j, 0)] [⟨(K92c1 a r_ e b f d g), some 43⟩] [] p) => hK _ _ ?_
 refine R_runk 1 1 [1] [(tP 1 0 0)] k i.plOk (by kernel_rfl) fun x l => ?_
 refine wpFrom_end (by decide) (wp_seq (wp_region_from (R_runk 0 5 [2] [(tI 2 (IntKind.i64.wrap (((r_.legs.length : Nat) : Int) + 1)))] l i.plOk (by kernel_rfl) fun y m => ?_)))
 refine wpFrom_end (by decide) (wp_ret ?_)
 obtain rfl := Option.some.inj H
 exact ret_ok (.one (.c (.int .i64 (IntKind.i64.wrap (((r_.legs.length : Nat) : Int) + 1))))) m i (by kernel_rfl) rfl

abbrev K79c1 (a : Option Addr) (r_ : Route) (e : Nat) (b : Option Addr) (f : Nat) (d : Option Addr) (g : Nat) : List SC := [.slice a r_.legs.length e, .int .i64 r_.turn.lo, .int .i64 r_.turn.hi, .slice b r_.buses.length f, .slice d r_.spares.length g, .int .i64 r_.unit, .int .i64 r_.gap, .int .i64 r_.fr, .int .i64 r_.to_]
set_option maxRecDepth 100000 in
set_option maxHeartbeats 4000000 in
theorem control_Route_places_ok (n : Nat) {h : Heap} {w : World} (hh : Has h w) (r_ : Route) {cs_r_ : List Value} (hx_r_ : rep h r_ cs_r_) {r : Int} (H : control_Route_places n r_ = some r) :
  Calls Try.prog 79 #[.agg cs_r_.toArray] w (Ret (fun h v => v = .int .i64 r) h w) := by
 obtain ⟨_, _, rfl, ⟨a, e, rfl, l⟩, ⟨_, _, rfl, ⟨_, _, rfl, rfl, rfl⟩, ⟨_, _, rfl, ⟨b, f, rfl, m⟩, ⟨_, _, rfl, ⟨d, g, rfl, o⟩, ⟨_, _, rfl, rfl, ⟨_, _, rfl, rfl, ⟨_, _, rfl, rfl, rfl⟩⟩⟩⟩⟩⟩⟩ := hx_r_
 refine enter 6 [.agg (K79c1 a r_ e b f d g)] Try.func79 rfl rfl rfl rfl fun t hk => ?_
 have hm := Mem.begin h w hh
 unfold control_Route_places at H
 refine wp_seq (wp_region_from (wpFrom_loud _ rfl (rfl) fun K hK => ?_))
 refine wp_box (.agg (K79c1 a r_ e b f d g)) hk hm rfl rfl (by decide) (by kernel_rfl) (by kernel_rfl) (by kernel_rfl) fun j aa ac (s : Kn 6 [(j, 0)] [(tP 1 0 0), (tA 0 (K79c1 a r_ e b f d g))] aa) (i : Mem ⟨w, h, noX⟩ h [(j, 0)] [⟨(K79c1 a r_ e b f d g), some 43⟩] [] ac) => hK _ _ ?_
 refine R_runk 1 1 [1] [(tP 1 0 0)] s i.plOk (by kernel_rfl) fun ae u => ?_
 refine wpFrom_end (by decide) (wp_seq (wp_region_from (R_runk 0 1 [3] [(tA 3 (K79c1 a r_ e b f d g))] u i.plOk (by kernel_rfl) fun af x => ?_)))
 obtain ⟨x4, ex4, H⟩ := bnd H
 refine wpFrom_loud _ rfl (rfl) fun K hK => ?_
 refine wp_call [.agg (K79c1 a r_ e b f d g)] _ x i rfl rfl (by decide) (by rfl) rfl (fun _ _ => by kernel_rfl) (control_Route_stops_ok n i.has r_ ((rep_pair (rep_slice l) (rep_pair (rep_pair rep_int rep_int) (rep_pair (rep_slice m) (rep_pair (rep_slice o) (rep_pair rep_int (rep_pair rep_int (rep_pair rep_int rep_int))))))) : rep h r_ _) ex4) fun ah ad ai q k p => ?_
 replace l := l.mono k
 replace m := m.mono k
 replace o := o.mono k
 obtain rfl := q
 refine ⟨.one (.c (.int .i64 x4)), rfl, fun ab (y : Kn 6 [(j, 0)] [(tI 4 x4), (tA 3 (K79c1 a r_ e b f d g))] ab) => hK _ _ ?_⟩
 refine R_runk 2 2 [2] [(tI 2 (IntKind.i64.wrap (Int.tdiv x4 2)))] y p.plOk (by kernel_rfl) fun ag z => ?_
 refine wpFrom_end (by decide) (wp_ret ?_)
 obtain rfl := Option.some.inj H
 exact ret_ok (.one (.c (.int .i64 (IntKind.i64.wrap (Int.tdiv x4 2))))) z p (by kernel_rfl) rfl

abbrev K64c1 (a : Option Addr) (r_ : Route) (e : Nat) (b : Option Addr) (f : Nat) (d : Option Addr) (g : Nat) : List SC := [.slice a r_.legs.length e, .int .i64 r_.turn.lo, .int .i64 r_.turn.hi, .slice b r_.buses.length f, .slice d r_.spares.length g, .int .i64 r_.unit, .int .i64 r_.gap, .int .i64 r_.fr, .int .i64 r_.to_]
set_option maxRecDepth 100000 in
set_option maxHeartbeats 4000000 in
theorem control_Route_stop_ok (n : Nat) {h : Heap} {w : World} (hh : Has h w) (r_ : Route) {cs_r_ : List Value} (hx_r_ : rep h r_ cs_r_) (n_ : Int) {r : Bool} (H : control_Route_stop n r_ n_ = some r) :
  Calls Try.prog 64 #[.agg cs_r_.toArray, .int .i64 n_] w (Ret (fun h v => v = .bool r) h w) := by
 obtain ⟨_, _, rfl, ⟨a, e, rfl, i⟩, ⟨_, _, rfl, ⟨_, _, rfl, rfl, rfl⟩, ⟨_, _, rfl, ⟨b, f, rfl, j⟩, ⟨_, _, rfl, ⟨d, g, rfl, k⟩, ⟨_, _, rfl, rfl, ⟨_, _, rfl, rfl, ⟨_, _, rfl, rfl, rfl⟩⟩⟩⟩⟩⟩⟩ := hx_r_
 refine enter 10 [.agg (K64c1 a r_ e b f d g), .c (.int .i64 n_)] Try.func64 rfl rfl rfl rfl fun t hk => ?_
 have hm := Mem.begin h w hh
 unfold control_Route_stop at H
 refine wp_seq (wp_region_from (wpFrom_loud _ rfl (rfl) fun K hK => ?_))
 refine wp_box (.agg (K64c1 a r_ e b f d g)) hk hm rfl rfl (by decide) (by kernel_rfl) (by kernel_rfl) (by kernel_rfl) fun l af ai (y : Kn 10 [(l, 0)] [(tP 2 0 0), (tA 0 (K64c1 a r_ e b f d g)), (tI 1 n_)] af) (m : Mem ⟨w, h, noX⟩ h [(l, 0)] [⟨(K64c1 a r_ e b f d g), some 43⟩] [] ai) => hK _ _ ?_
 refine R_runk 1 1 [2, 1] [(tP 2 0 0), (tI 1 n_)] y m.plOk (by kernel_rfl) fun al z => ?_
 refine wpFrom_end (by decide) (wp_seq (wp_region_from (R_runk 0 2 [6, 5] [(tA 6 (K64c1 a r_ e b f d g)), (tI 5 n_)] z m.plOk (by kernel_rfl) fun am aa => ?_)))
 obtain ⟨x7, ex7, H⟩ := bnd H
 refine wpFrom_loud _ rfl (rfl) fun K hK => ?_
 refine wp_call [.agg (K64c1 a r_ e b f d g)] _ aa m rfl rfl (by decide) (by rfl) rfl (fun _ _ => by kernel_rfl) (control_Route_stops_ok n m.has r_ ((rep_pair (rep_slice i) (rep_pair (rep_pair rep_int rep_int) (rep_pair (rep_slice j) (rep_pair (rep_slice k) (rep_pair rep_int (rep_pair rep_int (rep_pair rep_int rep_int))))))) : rep h r_ _) ex7) fun ap aj ar u o q => ?_
 replace i := i.mono o
 replace j := j.mono o
 replace k := k.mono o
 obtain rfl := u
 refine ⟨.one (.c (.int .i64 x7)), rfl, fun ag (ab : Kn 10 [(l, 0)] [(tI 7 x7), (tA 6 (K64c1 a r_ e b f d g)), (tI 5 n_)] ag) => hK _ _ ?_⟩
 refine R_runk 3 1 [8, 5] [(tI 8 (IntKind.i64.wrap (x7 - 1))), (tI 5 n_)] ab q.plOk (by kernel_rfl) fun an ac => ?_
 obtain ⟨x9, ex9, H⟩ := bnd H
 refine wpFrom_loud _ rfl (rfl) fun K hK => ?_
 refine wp_call [.c (.int .i64 n_), .c (.int .i64 0), .c (.int .i64 (IntKind.i64.wrap (x7 - 1)))] _ ac q rfl rfl (by decide) (by rfl) rfl (fun _ _ => by kernel_rfl) (control_within_ok n q.has n_ 0 (IntKind.i64.wrap (x7 - 1)) ex9) fun aq ak au x p s => ?_
 replace i := i.mono p
 replace j := j.mono p
 replace k := k.mono p
 obtain rfl := x
 refine ⟨.one (.c (.bool x9)), rfl, fun ah (ad : Kn 10 [(l, 0)] [(tB 9 x9), (tI 8 (IntKind.i64.wrap (x7 - 1))), (tI 5 n_)] ah) => hK _ _ ?_⟩
 refine R_runk 5 1 [4] [(tB 4 x9)] ad s.plOk (by kernel_rfl) fun ao ae => ?_
 refine wpFrom_end (by decide) (wp_ret ?_)
 obtain rfl := Option.some.inj H
 exact ret_ok (.one (.c (.bool x9))) ae s (by kernel_rfl) rfl

set_option maxRecDepth 100000 in
set_option maxHeartbeats 4000000 in
theorem control_Range_upto_ok (n : Nat) {h : Heap} {w : World} (hh : Has h w) (r_ : Rg) {cs_r_ : List Value} (hx_r_ : rep h r_ cs_r_) (most : Int) {r : Bool} (H : control_Range_upto n r_ most = some r) :
  Calls Try.prog 76 #[.agg cs_r_.toArray, .int .i64 most] w (Ret (fun h v => v = .bool r) h w) := by
 obtain ⟨_, _, rfl, rfl, rfl⟩ := hx_r_
 refine enter 21 [.agg [.int .i64 r_.lo, .int .i64 r_.hi], .c (.int .i64 most)] Try.func76 rfl rfl rfl rfl fun t hk => ?_
 have hm := Mem.begin h w hh
 unfold control_Range_upto at H
 refine wp_seq (wp_region_from (wpFrom_loud _ rfl (rfl) fun K hK => ?_))
 refine wp_box (.agg [.int .i64 r_.lo, .int .i64 r_.hi]) hk hm rfl rfl (by decide) (by kernel_rfl) (by kernel_rfl) (by kernel_rfl) fun b y z (u : Kn 21 [(b, 0)] [(tP 2 0 0), (tA 0 [.int .i64 r_.lo, .int .i64 r_.hi]), (tI 1 most)] y) (a : Mem ⟨w, h, noX⟩ h [(b, 0)] [⟨[.int .i64 r_.lo, .int .i64 r_.hi], some 39⟩] [] z) => hK _ _ ?_
 refine R_runk 1 1 [2, 1] [(tP 2 0 0), (tI 1 most)] u a.plOk (by kernel_rfl) fun ad x => ?_
 refine wpFrom_end (by decide) (wp_seq (wp_region_from (R_runk 0 4 [8, 2, 1] [(tB 8 (decide (0 ≤ r_.lo))), (tP 2 0 0), (tI 1 most)] x a.plOk (by kernel_rfl) fun j g => ?_)))
 rcases Bool.eq_false_or_eq_true (decide (0 ≤ r_.lo)) with d | d
 ·
  rw [d, cond_true] at H
  have k : Kn 21 [(b, 0)] [(tB 8 true), (tP 2 0 0), (tI 1 most)] j := (g.setB 8 true (by rfl) d).keep [8, 2, 1] (by rfl)
  refine R_runk 4 7 [15, 2, 1] [(tB 15 (decide (r_.lo ≤ r_.hi))), (tP 2 0 0), (tI 1 most)] k a.plOk (by kernel_rfl) fun i f => ?_
  rcases Bool.eq_false_or_eq_true (decide (r_.lo ≤ r_.hi)) with e | e
  ·
   rw [e, cond_true] at H
   have l : Kn 21 [(b, 0)] [(tB 15 true), (tP 2 0 0), (tI 1 most)] i := (f.setB 15 true (by rfl) e).keep [15, 2, 1] (by rfl)
   refine R_runk 11 6 [4] [(tB 4 (decide (r_.hi ≤ most)))] l a.plOk (by kernel_rfl) fun aa m => ?_
   refine wpFrom_end (by decide) (wp_ret ?_)
   obtain rfl := Option.some.inj H
   exact ret_ok (.one (.c (.bool (decide (r_.hi ≤ most))))) m a (by kernel_rfl) rfl
  ·
   rw [e, cond_false] at H
   have o : Kn 21 [(b, 0)] [(tB 15 false), (tP 2 0 0), (tI 1 most)] i := (f.setB 15 false (by rfl) e).keep [15, 2, 1] (by rfl)
   refine R_runk 11 6 [4] [(tB 4 false)] o a.plOk (by kernel_rfl) fun ab p => ?_
   refine wpFrom_end (by decide) (wp_ret ?_)
   obtain rfl := Option.some.inj H
   exact ret_ok (.one (.c (.bool false))) p a (by kernel_rfl) rfl
 ·
  rw [d, cond_false] at H
  have q : Kn 21 [(b, 0)] [(tB 8 false), (tP 2 0 0), (tI 1 most)] j := (g.setB 8 false (by rfl) d).keep [8, 2, 1] (by rfl)
  refine R_runk 4 13 [4] [(tB 4 false)] q a.plOk (by kernel_rfl) fun ac s => ?_
  refine wpFrom_end (by decide) (wp_ret ?_)
  obtain rfl := Option.some.inj H
  exact ret_ok (.one (.c (.bool false))) s a (by kernel_rfl) rfl

set_option maxRecDepth 100000 in
set_option maxHeartbeats 4000000 in
theorem control_Range_takes_ok (n : Nat) {h : Heap} {w : World} (hh : Has h w) (r_ : Rg) {cs_r_ : List Value} (hx_r_ : rep h r_ cs_r_) {r : Bool} (H : control_Range_takes n r_ = some r) :
  Calls Try.prog 81 #[.agg cs_r_.toArray] w (Ret (fun h v => v = .bool r) h w) := by
 obtain ⟨_, _, rfl, rfl, rfl⟩ := hx_r_
 refine enter 5 [.agg [.int .i64 r_.lo, .int .i64 r_.hi]] Try.func81 rfl rfl rfl rfl fun t hk => ?_
 have hm := Mem.begin h w hh
 unfold control_Range_takes at H
 refine wp_seq (wp_region_from (wpFrom_loud _ rfl (rfl) fun K hK => ?_))
 refine wp_box (.agg [.int .i64 r_.lo, .int .i64 r_.hi]) hk hm rfl rfl (by decide) (by kernel_rfl) (by kernel_rfl) (by kernel_rfl) fun b m o (i : Kn 5 [(b, 0)] [(tP 1 0 0), (tA 0 [.int .i64 r_.lo, .int .i64 r_.hi])] m) (a : Mem ⟨w, h, noX⟩ h [(b, 0)] [⟨[.int .i64 r_.lo, .int .i64 r_.hi], some 39⟩] [] o) => hK _ _ ?_
 refine R_runk 1 1 [1] [(tP 1 0 0)] i a.plOk (by kernel_rfl) fun u j => ?_
 refine wpFrom_end (by decide) (wp_seq (wp_region_from (R_runk 0 1 [3] [(tA 3 [.int .i64 r_.lo, .int .i64 r_.hi])] j a.plOk (by kernel_rfl) fun x k => ?_)))
 obtain ⟨x4, ex4, H⟩ := bnd H
 refine wpFrom_loud _ rfl (rfl) fun K hK => ?_
 refine wp_call [.agg [.int .i64 r_.lo, .int .i64 r_.hi], .c (.int .i64 300)] _ k a rfl rfl (by decide) (by rfl) rfl (fun _ _ => by kernel_rfl) (control_Range_upto_ok n a.has r_ ((rep_pair rep_int rep_int) : rep h r_ _) 300 ex4) fun y p z e q d => ?_
 obtain rfl := e
 refine ⟨.one (.c (.bool x4)), rfl, fun l (f : Kn 5 [(b, 0)] [(tB 4 x4), (tA 3 [.int .i64 r_.lo, .int .i64 r_.hi])] l) => hK _ _ ?_⟩
 refine R_runk 2 1 [2] [(tB 2 x4)] f d.plOk (by kernel_rfl) fun s g => ?_
 refine wpFrom_end (by decide) (wp_ret ?_)
 obtain rfl := Option.some.inj H
 exact ret_ok (.one (.c (.bool x4))) g d (by kernel_rfl) rfl

set_option maxRecDepth 100000 in
set_option maxHeartbeats 4000000 in
theorem control_Range_low_ok (n : Nat) {h : Heap} {w : World} (hh : Has h w) (r_ : Rg) {cs_r_ : List Value} (hx_r_ : rep h r_ cs_r_) {r : Int} (H : control_Range_low n r_ = some r) :
  Calls Try.prog 68 #[.agg cs_r_.toArray] w (Ret (fun h v => v = .int .i64 r) h w) := by
 obtain ⟨_, _, rfl, rfl, rfl⟩ := hx_r_
 refine enter 5 [.agg [.int .i64 r_.lo, .int .i64 r_.hi]] Try.func68 rfl rfl rfl rfl fun t hk => ?_
 have hm := Mem.begin h w hh
 unfold control_Range_low at H
 refine wp_seq (wp_region_from (wpFrom_loud _ rfl (rfl) fun K hK => ?_))
 refine wp_box (.agg [.int .i64 r_.lo, .int .i64 r_.hi]) hk hm rfl rfl (by decide) (by kernel_rfl) (by kernel_rfl) (by kernel_rfl) fun b g i (d : Kn 5 [(b, 0)] [(tP 1 0 0), (tA 0 [.int .i64 r_.lo, .int .i64 r_.hi])] g) (a : Mem ⟨w, h, noX⟩ h [(b, 0)] [⟨[.int .i64 r_.lo, .int .i64 r_.hi], some 39⟩] [] i) => hK _ _ ?_
 refine R_runk 1 1 [1] [(tP 1 0 0)] d a.plOk (by kernel_rfl) fun j e => ?_
 refine wpFrom_end (by decide) (wp_seq (wp_region_from (R_runk 0 3 [2] [(tI 2 r_.lo)] e a.plOk (by kernel_rfl) fun k f => ?_)))
 refine wpFrom_end (by decide) (wp_ret ?_)
 obtain rfl := Option.some.inj H
 exact ret_ok (.one (.c (.int .i64 r_.lo))) f a (by kernel_rfl) rfl

set_option maxRecDepth 100000 in
set_option maxHeartbeats 4000000 in
theorem control_Range_high_ok (n : Nat) {h : Heap} {w : World} (hh : Has h w) (r_ : Rg) {cs_r_ : List Value} (hx_r_ : rep h r_ cs_r_) {r : Int} (H : control_Range_high n r_ = some r) :
  Calls Try.prog 69 #[.agg cs_r_.toArray] w (Ret (fun h v => v = .int .i64 r) h w) := by
 obtain ⟨_, _, rfl, rfl, rfl⟩ := hx_r_
 refine enter 5 [.agg [.int .i64 r_.lo, .int .i64 r_.hi]] Try.func69 rfl rfl rfl rfl fun t hk => ?_
 have hm := Mem.begin h w hh
 unfold control_Range_high at H
 refine wp_seq (wp_region_from (wpFrom_loud _ rfl (rfl) fun K hK => ?_))
 refine wp_box (.agg [.int .i64 r_.lo, .int .i64 r_.hi]) hk hm rfl rfl (by decide) (by kernel_rfl) (by kernel_rfl) (by kernel_rfl) fun b g i (d : Kn 5 [(b, 0)] [(tP 1 0 0), (tA 0 [.int .i64 r_.lo, .int .i64 r_.hi])] g) (a : Mem ⟨w, h, noX⟩ h [(b, 0)] [⟨[.int .i64 r_.lo, .int .i64 r_.hi], some 39⟩] [] i) => hK _ _ ?_
 refine R_runk 1 1 [1] [(tP 1 0 0)] d a.plOk (by kernel_rfl) fun j e => ?_
 refine wpFrom_end (by decide) (wp_seq (wp_region_from (R_runk 0 3 [2] [(tI 2 r_.hi)] e a.plOk (by kernel_rfl) fun k f => ?_)))
 refine wpFrom_end (by decide) (wp_ret ?_)
 obtain rfl := Option.some.inj H
 exact ret_ok (.one (.c (.int .i64 r_.hi))) f a (by kernel_rfl) rfl

abbrev K95c1 (a : Option Addr) (r_ : Route) (e : Nat) (b : Option Addr) (f : Nat) (d : Option Addr) (g : Nat) : List SC := [.slice a r_.legs.length e, .int .i64 r_.turn.lo, .int .i64 r_.turn.hi, .slice b r_.buses.length f, .slice d r_.spares.length g, .int .i64 r_.unit, .int .i64 r_.gap, .int .i64 r_.fr, .int .i64 r_.to_]
set_option maxRecDepth 100000 in
set_option maxHeartbeats 4000000 in
theorem control_Route_looked_ok (n : Nat) {h : Heap} {w : World} (hh : Has h w) (r_ : Route) {cs_r_ : List Value} (hx_r_ : rep h r_ cs_r_) (n_ : Int) {r : Bool} (H : control_Route_looked n r_ n_ = some r) :
  Calls Try.prog 95 #[.agg cs_r_.toArray, .int .i64 n_] w (Ret (fun h v => v = .bool r) h w) := by
 obtain ⟨_, _, rfl, ⟨a, e, rfl, m⟩, ⟨_, _, rfl, ⟨_, _, rfl, rfl, rfl⟩, ⟨_, _, rfl, ⟨b, f, rfl, o⟩, ⟨_, _, rfl, ⟨d, g, rfl, p⟩, ⟨_, _, rfl, rfl, ⟨_, _, rfl, rfl, ⟨_, _, rfl, rfl, rfl⟩⟩⟩⟩⟩⟩⟩ := hx_r_
 refine enter 11 [.agg (K95c1 a r_ e b f d g), .c (.int .i64 n_)] Try.func95 rfl rfl rfl rfl fun t hk => ?_
 have hm := Mem.begin h w hh
 unfold control_Route_looked at H
 refine wp_seq (wp_region_from (wpFrom_loud _ rfl (rfl) fun K hK => ?_))
 refine wp_box (.agg (K95c1 a r_ e b f d g)) hk hm rfl rfl (by decide) (by kernel_rfl) (by kernel_rfl) (by kernel_rfl) fun j aa ac (s : Kn 11 [(j, 0)] [(tP 2 0 0), (tA 0 (K95c1 a r_ e b f d g)), (tI 1 n_)] aa) (i : Mem ⟨w, h, noX⟩ h [(j, 0)] [⟨(K95c1 a r_ e b f d g), some 43⟩] [] ac) => hK _ _ ?_
 refine R_runk 1 1 [2, 1] [(tP 2 0 0), (tI 1 n_)] s i.plOk (by kernel_rfl) fun ae u => ?_
 refine wpFrom_end (by decide) (wp_seq (wp_region_from (R_runk 0 5 [9, 7, 5] [(tI 9 r_.to_), (tI 7 r_.fr), (tI 5 n_)] u i.plOk (by kernel_rfl) fun af x => ?_)))
 obtain ⟨x10, ex10, H⟩ := bnd H
 refine wpFrom_loud _ rfl (rfl) fun K hK => ?_
 refine wp_call [.c (.int .i64 n_), .c (.int .i64 r_.fr), .c (.int .i64 r_.to_)] _ x i rfl rfl (by decide) (by rfl) rfl (fun _ _ => by kernel_rfl) (control_within_ok n i.has n_ r_.fr r_.to_ ex10) fun ah ad ai q k l => ?_
 replace m := m.mono k
 replace o := o.mono k
 replace p := p.mono k
 obtain rfl := q
 refine ⟨.one (.c (.bool x10)), rfl, fun ab (y : Kn 11 [(j, 0)] [(tB 10 x10), (tI 9 r_.to_), (tI 7 r_.fr), (tI 5 n_)] ab) => hK _ _ ?_⟩
 refine R_runk 6 1 [4] [(tB 4 x10)] y l.plOk (by kernel_rfl) fun ag z => ?_
 refine wpFrom_end (by decide) (wp_ret ?_)
 obtain rfl := Option.some.inj H
 exact ret_ok (.one (.c (.bool x10))) z l (by kernel_rfl) rfl

abbrev K86c1 (b : Bus) : List SC := [.int .i64 b.stop, .int .i64 b.tm.lo, .int .i64 b.tm.hi]
abbrev K86c2 (a : Option Addr) (r_ : Route) (f : Nat) (d : Option Addr) (g : Nat) (e : Option Addr) (i : Nat) : List SC := [.slice a r_.legs.length f, .int .i64 r_.turn.lo, .int .i64 r_.turn.hi, .slice d r_.buses.length g, .slice e r_.spares.length i, .int .i64 r_.unit, .int .i64 r_.gap, .int .i64 r_.fr, .int .i64 r_.to_]
set_option maxRecDepth 100000 in
set_option maxHeartbeats 4000000 in
theorem control_Route_turns_ok (n : Nat) {h : Heap} {w : World} (hh : Has h w) (r_ : Route) {cs_r_ : List Value} (hx_r_ : rep h r_ cs_r_) (b : Bus) {cs_b : List Value} (hx_b : rep h b cs_b) (at_ : Int) {r : Bool} (H : control_Route_turns n r_ b at_ = some r) :
  Calls Try.prog 86 #[.agg cs_r_.toArray, .agg cs_b.toArray, .int .i64 at_] w (Ret (fun h v => v = .bool r) h w) := by
 obtain ⟨_, _, rfl, ⟨a, f, rfl, o⟩, ⟨_, _, rfl, ⟨_, _, rfl, rfl, rfl⟩, ⟨_, _, rfl, ⟨d, g, rfl, p⟩, ⟨_, _, rfl, ⟨e, i, rfl, q⟩, ⟨_, _, rfl, rfl, ⟨_, _, rfl, rfl, ⟨_, _, rfl, rfl, rfl⟩⟩⟩⟩⟩⟩⟩ := hx_r_
 obtain ⟨_, _, rfl, rfl, ⟨_, _, rfl, rfl, rfl⟩⟩ := hx_b
 refine enter 18 [.agg (K86c2 a r_ f d g e i), .agg (K86c1 b), .c (.int .i64 at_)] Try.func86 rfl rfl rfl rfl fun t hk => ?_
 have hm := Mem.begin h w hh
 unfold control_Route_turns at H
 refine wp_seq (wp_region_from (wpFrom_loud _ rfl (rfl) fun K hK => ?_))
 refine wp_box (.agg (K86c2 a r_ f d g e i)) hk hm rfl rfl (by decide) (by kernel_rfl) (by kernel_rfl) (by kernel_rfl) fun j ap av (af : Kn 18 [(j, 0)] [(tP 3 0 0), (tA 0 (K86c2 a r_ f d g e i)), (tA 1 (K86c1 b)), (tI 2 at_)] ap) (ao : Mem ⟨w, h, noX⟩ h [(j, 0)] [⟨(K86c2 a r_ f d g e i), some 43⟩] [] av) => hK _ _ ?_
 refine wpFrom_loud _ rfl (rfl) fun K hK => ?_
 refine wp_box (.agg (K86c1 b)) af ao rfl rfl (by decide) (by kernel_rfl) (by kernel_rfl) (by kernel_rfl) fun l aq aw (ag : Kn 18 [(j, 0), (l, 0)] [(tP 4 1 0), (tP 3 0 0), (tA 0 (K86c2 a r_ f d g e i)), (tA 1 (K86c1 b)), (tI 2 at_)] aq) (k : Mem ⟨w, h, noX⟩ h [(j, 0), (l, 0)] [⟨(K86c2 a r_ f d g e i), some 43⟩, ⟨(K86c1 b), some 96⟩] [] aw) => hK _ _ ?_
 refine R_runk 2 1 [4, 3, 2] [(tP 4 1 0), (tP 3 0 0), (tI 2 at_)] ag k.plOk (by kernel_rfl) fun az ah => ?_
 refine wpFrom_end (by decide) (wp_seq (wp_region_G (by kernel_rfl) ?_))
 replace k := k.drew
 refine wpG_of_D [] [(j, 0), (l, 0)] [⟨(K86c2 a r_ f d g e i), some 43⟩, ⟨(K86c1 b), some 96⟩] ?_
 refine D_run [0, 1, 2] [2, 1, 0] [9, 4, 3, 2] [(tB 9 (at_ == (-1))), (tP 4 1 0), (tP 3 0 0), (tI 2 at_)] (fun _ _ _ _ _ h => h) ah k.plOk (by kernel_rfl) (by rfl) (by kernel_rfl) fun ac z => ?_
 rcases Bool.eq_false_or_eq_true ((at_ == (-1))) with m | m
 ·
  rw [m, cond_true] at H
  have ai : Kn 18 [(j, 0), (l, 0)] [(tB 9 true), (tP 4 1 0), (tP 3 0 0), (tI 2 at_)] ac := (z.setB 9 true (by rfl) m).keep [9, 4, 3, 2] (by rfl)
  refine D_run [3, 4, 5, 6, 7, 8, 9, 10, 11] [11, 10, 9, 8, 7, 6, 5, 4, 3, 2, 1, 0] [6] [(tB 6 true)] (fun _ _ _ _ _ h => h) ai k.plOk (by kernel_rfl) (by rfl) (by kernel_rfl) fun a0 aj => ?_
  refine wpD_end (by kernel_rfl) (wp_ret ?_)
  obtain rfl := Option.some.inj H
  exact ret_ok (.one (.c (.bool true))) aj k (by kernel_rfl) rfl
 ·
  rw [m, cond_false] at H
  have ak : Kn 18 [(j, 0), (l, 0)] [(tB 9 false), (tP 4 1 0), (tP 3 0 0), (tI 2 at_)] ac := (z.setB 9 false (by rfl) m).keep [9, 4, 3, 2] (by rfl)
  refine D_run [3, 4, 5, 6] [6, 5, 4, 3, 2, 1, 0] [13, 12, 10, 9] [(tA 13 (K86c2 a r_ f d g e i)), (tI 12 b.stop), (tI 10 at_), (tB 9 false)] (fun _ _ _ _ _ h => h) ak k.plOk (by kernel_rfl) (by rfl) (by kernel_rfl) fun a1 aa => ?_
  obtain ⟨x14, ex14, H⟩ := bnd H
  refine D_loud 7 rfl (by kernel_rfl) (by decide) (wantedS_sound aa (by kernel_rfl)) fun K hK => ?_
  refine wp_call [.agg (K86c2 a r_ f d g e i)] _ aa k rfl rfl (by decide) (by rfl) rfl (fun _ _ => by kernel_rfl) (control_Route_places_ok n k.has r_ ((rep_pair (rep_slice o) (rep_pair (rep_pair rep_int rep_int) (rep_pair (rep_slice p) (rep_pair (rep_slice q) (rep_pair rep_int (rep_pair rep_int (rep_pair rep_int rep_int))))))) : rep h r_ _) ex14) fun a4 ax a6 ad u s => ?_
  replace o := o.mono u
  replace p := p.mono u
  replace q := q.mono u
  obtain rfl := ad
  refine ⟨.one (.c (.int .i64 x14)), rfl, fun ar (al : Kn 18 [(j, 0), (l, 0)] [(tI 14 x14), (tA 13 (K86c2 a r_ f d g e i)), (tI 12 b.stop), (tI 10 at_), (tB 9 false)] ar) => hK _ _ s.plOk ?_⟩
  refine D_run [8] [8, 7, 6, 5, 4, 3, 2, 1, 0] [15, 12, 10, 9] [(tI 15 (IntKind.i64.wrap (x14 - 2))), (tI 12 b.stop), (tI 10 at_), (tB 9 false)] (fun _ _ _ _ _ h => h) al s.plOk (by kernel_rfl) (by rfl) (by kernel_rfl) fun a2 ab => ?_
  obtain ⟨x16, ex16, H⟩ := bnd H
  refine D_loud 9 rfl (by kernel_rfl) (by decide) (wantedS_sound ab (by kernel_rfl)) fun K hK => ?_
  refine wp_call [.c (.int .i64 at_), .c (.int .i64 b.stop), .c (.int .i64 (IntKind.i64.wrap (x14 - 2)))] _ ab s rfl rfl (by decide) (by rfl) rfl (fun _ _ => by kernel_rfl) (control_within_ok n s.has at_ b.stop (IntKind.i64.wrap (x14 - 2)) ex16) fun a5 ay a7 ae x y => ?_
  replace o := o.mono x
  replace p := p.mono x
  replace q := q.mono x
  obtain rfl := ae
  refine ⟨.one (.c (.bool x16)), rfl, fun au (am : Kn 18 [(j, 0), (l, 0)] [(tB 16 x16), (tI 15 (IntKind.i64.wrap (x14 - 2))), (tI 12 b.stop), (tI 10 at_), (tB 9 false)] au) => hK _ _ y.plOk ?_⟩
  refine D_run [10, 11] [11, 10, 9, 8, 7, 6, 5, 4, 3, 2, 1, 0] [6] [(tB 6 x16)] (fun _ _ _ _ _ h => h) am y.plOk (by kernel_rfl) (by rfl) (by kernel_rfl) fun a3 an => ?_
  refine wpD_end (by kernel_rfl) (wp_ret ?_)
  obtain rfl := Option.some.inj H
  exact ret_ok (.one (.c (.bool x16))) an y (by kernel_rfl) rfl

abbrev K93c1 (x69 : Spare) : List SC := [.int .i64 x69.stop, .int .i64 x69.tm]
abbrev K93c2 (x17 : Bus) : List SC := [.int .i64 x17.stop, .int .i64 x17.tm.lo, .int .i64 x17.tm.hi]
abbrev K93c3 (aa : Option Addr) (t_ : Truth) (ac : Nat) (ab : Option Addr) (ad : Nat) (o : Option Addr) (p : Nat) : List SC := [.slice aa t_.tm.length ac, .slice ab t_.turns.length ad, .slice o t_.legs.length p]
abbrev K93c4 (x17 : Bus) (x25 x31 : Int) (w_ : Worked) (x42 : Int) : List SC := [.int .i64 x17.stop, .int .i64 (IntKind.i64.wrap (x25 + (IntKind.i64.wrap (x31 * w_.route.unit)))), .int .i64 x42]
abbrev K93e5 (g k ak al : Nat) (x_v12 : Int) (am ap au av aw a2 a4 : Nat) : Env := [(g, 0), (k, 0), (ak, al + (x_v12 : Int).toNat * 3), (am, 0), (ap, au + (x_v12 : Int).toNat * 1), (av, aw + (x_v12 : Int).toNat * 1), (a2, a4 + (x_v12 : Int).toNat * 1)]
abbrev K93e6 (g k ax a0 : Nat) (x_v22 : Int) (a5 bh bj b6 ca : Nat) (w_ : Worked) : Env := [(g, 0), (k, 0), (ax, a0 + (x_v22 : Int).toNat * 2), (a5, 0), (bh, bj + (x_v22 : Int).toNat * 1), (b6, ca + (IntKind.i64.wrap (((w_.route.buses.length : Nat) : Int) + x_v22) : Int).toNat * 1)]
abbrev K93e7 (g k ak al : Nat) (x_v12 : Int) (am ap au av aw a2 a4 bx bz b5 b9 : Nat) : Env := [(g, 0), (k, 0), (ak, al + (x_v12 : Int).toNat * 3), (am, 0), (ap, au + (x_v12 : Int).toNat * 1), (av, aw + (x_v12 : Int).toNat * 1), (a2, a4 + (x_v12 : Int).toNat * 1), (bx, bz + (x_v12 : Int).toNat * 1), (b5, b9 + (x_v12 : Int).toNat * 1)]
abbrev K93c8 (ae : Option Addr) (w_ : Worked) (af : Nat) (b : Option Addr) (d : Nat) (e : Option Addr) (f : Nat) (q : Option Addr) (x : Nat) (s : Option Addr) (y : Nat) (u : Option Addr) (z : Nat) : List SC := [.slice ae w_.route.legs.length af, .int .i64 w_.route.turn.lo, .int .i64 w_.route.turn.hi, .slice b w_.route.buses.length d, .slice e w_.route.spares.length f, .int .i64 w_.route.unit, .int .i64 w_.route.gap, .int .i64 w_.route.fr, .int .i64 w_.route.to_, .slice q w_.acts.holds.length x, .slice s w_.acts.turns.length y, .slice u w_.acts.spares.length z]
abbrev K93m9 (w_ : Worked) (e : Option Addr) (f : Nat) (ag : Option Addr) (x_v21 : List Times) (ah : Nat) (an : Option Addr) (x_v20 : List Trip) (ao : Nat) : TM := [(tI 65 ((w_.route.spares.length : Nat) : Int)), (tS 64 e w_.route.spares.length f), (tS 5 ag x_v21.length ah), (tS 4 an x_v20.length ao), (tP 3 1 0), (tP 2 0 0)]
abbrev K93m10 (ai : Option Addr) (x_v10 : List Trip) (aj : Nat) (x_v12 : Int) (w_ : Worked) (b : Option Addr) (d : Nat) (l : Option Addr) (x_v11 : List Times) (m : Nat) : TM := [(tS 19 ai x_v10.length aj), (tI 6 x_v12), (tI 14 x_v12), (tI 13 ((w_.route.buses.length : Nat) : Int)), (tS 12 b w_.route.buses.length d), (tS 5 l x_v11.length m), (tP 3 1 0), (tP 2 0 0)]
abbrev K93m11 (x_v12 : Int) (w_ : Worked) (b : Option Addr) (d : Nat) (l : Option Addr) (x_v11 : List Times) (m : Nat) (ai : Option Addr) (x_v10 : List Trip) (aj : Nat) : TM := [(tI 14 x_v12), (tI 13 ((w_.route.buses.length : Nat) : Int)), (tS 12 b w_.route.buses.length d), (tS 5 l x_v11.length m), (tS 4 ai x_v10.length aj), (tP 3 1 0), (tP 2 0 0)]
abbrev K93m12 (w_ : Worked) (b : Option Addr) (d : Nat) : TM := [(tI 13 ((w_.route.buses.length : Nat) : Int)), (tS 12 b w_.route.buses.length d), (tP 3 1 0), (tP 2 0 0)]
abbrev K93m13 (bb : Option Addr) (x84 : List Trip) (bc : Nat) (x_v22 : Int) (w_ : Worked) (e : Option Addr) (f : Nat) : TM := [(tS 4 bb x84.length bc), (tI 66 x_v22), (tI 65 ((w_.route.spares.length : Nat) : Int)), (tS 64 e w_.route.spares.length f), (tP 3 1 0), (tP 2 0 0)]
abbrev K93m14 (x_v22 : Int) (w_ : Worked) (e : Option Addr) (f : Nat) (ag : Option Addr) (x_v21 : List Times) (ah : Nat) : TM := [(tI 8 x_v22), (tI 66 x_v22), (tI 65 ((w_.route.spares.length : Nat) : Int)), (tS 64 e w_.route.spares.length f), (tS 5 ag x_v21.length ah), (tP 3 1 0), (tP 2 0 0)]
set_option maxRecDepth 100000 in
set_option maxHeartbeats 4000000 in
theorem control_worked_trips_ok (n : Nat) {h : Heap} {w : World} (hh : Has h w) (w_ : Worked) {cs_w_ : List Value} (hx_w_ : rep h w_ cs_w_) (t_ : Truth) {cs_t_ : List Value} (hx_t_ : rep h t_ cs_t_) {r : (List Trip) × (List Times)} (H : control_worked_trips n w_ t_ = some r) :
  Calls Try.prog 93 #[.agg cs_w_.toArray, .agg cs_t_.toArray] w (Ret (fun h v => ∃ v0 v1, v = .tuple #[v0, v1] ∧ (∃ a c, v0 = .slice a r.1.length c ∧ RepS h a c r.1) ∧ (∃ a c, v1 = .slice a r.2.length c ∧ RepS h a c r.2)) h w) := by
 obtain ⟨_, _, rfl, ⟨_, _, rfl, ⟨ae, af, rfl, bt⟩, ⟨_, _, rfl, ⟨_, _, rfl, rfl, rfl⟩, ⟨_, _, rfl, ⟨b, d, rfl, bp⟩, ⟨_, _, rfl, ⟨e, f, rfl, bq⟩, ⟨_, _, rfl, rfl, ⟨_, _, rfl, rfl, ⟨_, _, rfl, rfl, rfl⟩⟩⟩⟩⟩⟩⟩, ⟨_, _, rfl, ⟨q, x, rfl, bk⟩, ⟨_, _, rfl, ⟨s, y, rfl, bl⟩, ⟨u, z, rfl, bm⟩⟩⟩⟩ := hx_w_
 obtain ⟨_, _, rfl, ⟨aa, ac, rfl, bn⟩, ⟨_, _, rfl, ⟨ab, ad, rfl, bo⟩, ⟨o, p, rfl, bi⟩⟩⟩ := hx_t_
 refine enter 102 [.agg (K93c8 ae w_ af b d e f q x s y u z), .agg (K93c3 aa t_ ac ab ad o p)] Try.func93 rfl rfl rfl rfl fun t hk => ?_
 have hm := Mem.begin h w hh
 unfold control_worked_trips at H
 refine wp_seq (wp_region_from (wpFrom_loud _ rfl (rfl) fun K hK => ?_))
 refine wp_box (.agg (K93c8 ae w_ af b d e f q x s y u z)) hk hm rfl rfl (by decide) (by kernel_rfl) (by kernel_rfl) (by kernel_rfl) fun g jb jq (gn : Kn 102 [(g, 0)] [(tP 2 0 0), (tA 0 (K93c8 ae w_ af b d e f q x s y u z)), (tA 1 (K93c3 aa t_ ac ab ad o p))] jb) (he : Mem ⟨w, h, noX⟩ h [(g, 0)] [⟨(K93c8 ae w_ af b d e f q x s y u z), some 115⟩] [] jq) => hK _ _ ?_
 refine wpFrom_loud _ rfl (rfl) fun K hK => ?_
 refine wp_box (.agg (K93c3 aa t_ ac ab ad o p)) gn he rfl rfl (by decide) (by kernel_rfl) (by kernel_rfl) (by kernel_rfl) fun k jf d2 (gw : Kn 102 [(g, 0), (k, 0)] [(tP 3 1 0), (tP 2 0 0), (tA 0 (K93c8 ae w_ af b d e f q x s y u z)), (tA 1 (K93c3 aa t_ ac ab ad o p))] jf) (dn : Mem ⟨w, h, noX⟩ h [(g, 0), (k, 0)] [⟨(K93c8 ae w_ af b d e f q x s y u z), some 115⟩, ⟨(K93c3 aa t_ ac ab ad o p), some 76⟩] [] d2) => hK _ _ ?_
 refine R_runk 2 2 [5, 4, 3, 2] [(tS 5 none 0 0), (tS 4 none 0 0), (tP 3 1 0), (tP 2 0 0)] gw dn.plOk (by kernel_rfl) fun kt g3 => ?_
 refine wpFrom_end (by decide) (wp_seq (wp_seq (wp_region_from (R_runk 0 5 [14, 13, 12, 5, 4, 3, 2] [(tI 14 0), (tI 13 ((w_.route.buses.length : Nat) : Int)), (tS 12 b w_.route.buses.length d), (tS 5 none 0 0), (tS 4 none 0 0), (tP 3 1 0), (tP 2 0 0)] g3 dn.plOk (by kernel_rfl) fun ku g4 => ?_))))
 refine wpFrom_end (by decide) ?_
 have hf : Mem ⟨w, h, noX⟩ h [(g, 0), (k, 0)] [⟨(K93c8 ae w_ af b d e f q x s y u z), some 115⟩, ⟨(K93c3 aa t_ ac ab ad o p), some 76⟩] [⟨none, 0, 0, 153, 3, [], 0⟩] d2 := dn.nilRow 153 3
 have fd : Cells h ([] : List Trip) [] := Cells.nil
 have hg : Mem ⟨w, h, noX⟩ h [(g, 0), (k, 0)] [⟨(K93c8 ae w_ af b d e f q x s y u z), some 115⟩, ⟨(K93c3 aa t_ ac ab ad o p), some 76⟩] [⟨none, 0, 0, 153, 3, [], 0⟩, ⟨none, 0, 0, 158, 2, [], 0⟩] d2 := hf.nilRow 158 2
 have fe : Cells h ([] : List Times) [] := Cells.nil
 obtain ⟨bw, d4, H⟩ := bnd H
 refine wp_mid' (fun a' w' => ∃ (ci : Option Addr) (cm : Nat) (c1 : List Value) (cj : Option Addr) (cn : Nat) (c2 : List Value) (dz : Array Value) (cc : Heap), a' = ⟨dz, []⟩ ∧ Kn 102 [(g, 0), (k, 0)] [(tS 5 cj bw.2.length cn), (tS 4 ci bw.1.length cm), (tP 3 1 0), (tP 2 0 0)] dz ∧ Mem ⟨w, h, noX⟩ cc [(g, 0), (k, 0)] [⟨(K93c8 ae w_ af b d e f q x s y u z), some 115⟩, ⟨(K93c3 aa t_ ac ab ad o p), some 76⟩] [⟨ci, bw.1.length, cm, 153, 3, c1, 0⟩, ⟨cj, bw.2.length, cn, 158, 2, c2, 0⟩] w' ∧ Heap.le h cc ∧ Cells cc bw.1 c1 ∧ Cells cc bw.2 c2) ?_ ?_
 ·
  refine wp_block ?_
  refine wp_loop_n (fun ix a' w' => ∃ (x_v10 : List Trip) (x_v11 : List Times) (x_v12 : Int) (ai : Option Addr) (aj : Nat) (a6 : List Value) (l : Option Addr) (m : Nat) (a7 : List Value) (d0 : Array Value) (aq : Heap), a' = ⟨d0, []⟩ ∧ Kn 102 [(g, 0), (k, 0)] (K93m11 x_v12 w_ b d l x_v11 m ai x_v10 aj) d0 ∧ Mem ⟨w, h, noX⟩ aq [(g, 0), (k, 0)] [⟨(K93c8 ae w_ af b d e f q x s y u z), some 115⟩, ⟨(K93c3 aa t_ ac ab ad o p), some 76⟩] [⟨ai, x_v10.length, aj, 153, 3, a6, 0⟩, ⟨l, x_v11.length, m, 158, 2, a7, 0⟩] w' ∧ Heap.le h aq ∧ Cells aq x_v10 a6 ∧ Cells aq x_v11 a7 ∧ control_worked_trips_l1 ix w_ t_ x_v10 x_v11 x_v12 = some bw) n ?_ ?_
  ·
   exact Exists.intro ([] : List Trip) ⟨([] : List Times), 0, none, 0, ([]), none, 0, ([]), _, _, rfl, (g4.keep [14, 13, 12, 5, 4, 3, 2] (by rfl)), hg, (Heap.le_refl _), fd, fe, d4⟩
  ·
   rintro dw _ ju ⟨x_v10, x_v11, x_v12, ai, aj, a6, l, m, a7, d0, aq, rfl, g5, cz, bv, eb, ec, ar⟩
   clear d4
   obtain _ | dw := dw
   ·
    rw [control_worked_trips_l1] at ar; cases ar
   rw [control_worked_trips_l1] at ar
   replace bt := bt.mono bv
   replace bp := bp.mono bv
   replace bq := bq.mono bv
   replace bk := bk.mono bv
   replace bl := bl.mono bv
   replace bm := bm.mono bv
   replace bn := bn.mono bv
   replace bo := bo.mono bv
   replace bi := bi.mono bv
   refine wp_seq (wp_region_from (R_runk 0 1 [15, 14, 13, 12, 5, 4, 3, 2] ((tB 15 (decide (x_v12 < ((w_.route.buses.length : Nat) : Int)))) :: (K93m11 x_v12 w_ b d l x_v11 m ai x_v10 aj)) g5 cz.plOk (by kernel_rfl) fun kv df => ?_))
   refine wpFrom_end (by decide) (wp_seq (wp_cond_sv (decide (x_v12 < ((w_.route.buses.length : Nat) : Int))) df (by kernel_rfl) (fun c6 => ?_) (fun c6 => ?_)))
   ·
    rw [c6, cond_true] at ar
    refine wp_skip (wp_seq (wp_block (wp_seq (wp_region_from (R_runk 0 1 [16, 14, 13, 12, 5, 4, 3, 2] ((tI 16 x_v12) :: (K93m11 x_v12 w_ b d l x_v11 m ai x_v10 aj)) df cz.plOk (by kernel_rfl) fun kw g6 => ?_)))))
    obtain ⟨x17, ex17, ar⟩ := bnd ar
    obtain ⟨hu, h3, iv⟩ := idx_some ex17
    obtain ⟨ak, al, j4, e0, ij, fh⟩ := bp.get (by decide) iv
    obtain ⟨_, _, rfl, rfl, ⟨_, _, rfl, rfl, rfl⟩⟩ := ij
    have em : Mem ⟨w, h, noX⟩ aq [(g, 0), (k, 0), (ak, al + (x_v12 : Int).toNat * 3)] [⟨(K93c8 ae w_ af b d e f q x s y u z), some 115⟩, ⟨(K93c3 aa t_ ac ab ad o p), some 76⟩, ⟨(K93c2 x17), none⟩] [⟨ai, x_v10.length, aj, 153, 3, a6, 0⟩, ⟨l, x_v11.length, m, 158, 2, a7, 0⟩] ju := cz.addPlc (cs := (K93c2 x17)) (fun j c hj => fh j _ (map_get hj)) rfl (by kernel_rfl) (by kernel_rfl)
    refine R_index 1 (x_v12) rfl rfl (rfl) rfl (by decide) g6 (by rfl) (by rfl) (by rfl) e0 (by rfl) hu h3 (by kernel_rfl) fun jj (g7 : Kn 102 [(g, 0), (k, 0), (ak, al + (x_v12 : Int).toNat * 3)] ((tP 17 2 0) :: (tI 16 x_v12) :: (K93m11 x_v12 w_ b d l x_v11 m ai x_v10 aj)) jj) => ?_
    refine R_runk 2 1 [18, 16, 14, 13, 12, 5, 4, 3, 2] ((tA 18 (K93c2 x17)) :: (tI 16 x_v12) :: (K93m11 x_v12 w_ b d l x_v11 m ai x_v10 aj)) g7 em.plOk (by kernel_rfl) fun kx g8 => ?_
    refine wpFrom_loud _ rfl (rfl) fun K hK => ?_
    refine wp_alloc [.int .i64 0, .int .i64 0, .int .i64 0] g8 em rfl rfl (by decide) (by kernel_rfl) (by kernel_rfl) (by kernel_rfl) fun am jk jv (g9 : Kn 102 [(g, 0), (k, 0), (ak, al + (x_v12 : Int).toNat * 3), (am, 0)] ((tP 7 3 0) :: (tA 18 (K93c2 x17)) :: (tI 16 x_v12) :: (K93m11 x_v12 w_ b d l x_v11 m ai x_v10 aj)) jk) (en : Mem ⟨w, h, noX⟩ aq [(g, 0), (k, 0), (ak, al + (x_v12 : Int).toNat * 3), (am, 0)] [⟨(K93c8 ae w_ af b d e f q x s y u z), some 115⟩, ⟨(K93c3 aa t_ ac ab ad o p), some 76⟩, ⟨(K93c2 x17), none⟩, ⟨[.int .i64 0, .int .i64 0, .int .i64 0], some 96⟩] [⟨ai, x_v10.length, aj, 153, 3, a6, 0⟩, ⟨l, x_v11.length, m, 158, 2, a7, 0⟩] jv) => hK _ _ ?_
    refine R_runk 4 1 [6, 7, 18, 14, 13, 12, 5, 4, 3, 2] ((tI 6 x_v12) :: (tP 7 3 0) :: (tA 18 (K93c2 x17)) :: (K93m11 x_v12 w_ b d l x_v11 m ai x_v10 aj)) g9 en.plOk (by kernel_rfl) fun iy fm => ?_
    refine wpFrom_loud _ rfl (rfl) fun K hK => ?_
    refine wp_store 3 0 (.agg (K93c2 x17)) (K93c2 x17) fm en rfl rfl (by rfl) (by rfl) (by rfl) (by kernel_rfl) (by kernel_rfl) (by rfl) fun c3 fn (cr : Mem ⟨w, h, noX⟩ aq [(g, 0), (k, 0), (ak, al + (x_v12 : Int).toNat * 3), (am, 0)] [⟨(K93c8 ae w_ af b d e f q x s y u z), some 115⟩, ⟨(K93c3 aa t_ ac ab ad o p), some 76⟩, ⟨(K93c2 x17), none⟩, ⟨(K93c2 x17), some 96⟩] [⟨ai, x_v10.length, aj, 153, 3, a6, 0⟩, ⟨l, x_v11.length, m, 158, 2, a7, 0⟩] c3) => hK _ _ ?_
    have fo : Kn 102 [(g, 0), (k, 0), (ak, al + (x_v12 : Int).toNat * 3), (am, 0)] ((tI 6 x_v12) :: (tP 7 3 0) :: (K93m11 x_v12 w_ b d l x_v11 m ai x_v10 aj)) iy := fn.keep [6, 7, 14, 13, 12, 5, 4, 3, 2] (by rfl)
    refine wpFrom_end (by decide) (wp_seq (wp_region_G (by kernel_rfl) ?_))
    replace cr := cr.drew
    refine wpG_of_D [] [(g, 0), (k, 0), (ak, al + (x_v12 : Int).toNat * 3), (am, 0)] [⟨(K93c8 ae w_ af b d e f q x s y u z), some 115⟩, ⟨(K93c3 aa t_ ac ab ad o p), some 76⟩, ⟨(K93c2 x17), none⟩, ⟨(K93c2 x17), some 96⟩] ?_
    refine D_run [0, 1, 2, 3, 4, 5] [5, 4, 3, 2, 1, 0] [24, 23, 21, 19, 6, 14, 13, 12, 5, 3, 2] ((tI 24 x_v12) :: (tS 23 aa t_.tm.length ac) :: (tI 21 x17.stop) :: (K93m10 ai x_v10 aj x_v12 w_ b d l x_v11 m)) (fun _ _ _ _ _ h => h) fo cr.plOk (by kernel_rfl) (by rfl) (by kernel_rfl) fun j5 fp => ?_
    obtain ⟨x25, ex25, ar⟩ := bnd ar
    obtain ⟨hl, hv, ik⟩ := idx_some ex25
    obtain ⟨ap, au, jw, es, h9, e1⟩ := bn.get (by decide) ik
    obtain rfl := h9
    have dg : Mem ⟨w, h, noX⟩ aq [(g, 0), (k, 0), (ak, al + (x_v12 : Int).toNat * 3), (am, 0), (ap, au + (x_v12 : Int).toNat * 1)] [⟨(K93c8 ae w_ af b d e f q x s y u z), some 115⟩, ⟨(K93c3 aa t_ ac ab ad o p), some 76⟩, ⟨(K93c2 x17), none⟩, ⟨(K93c2 x17), some 96⟩, ⟨[.int .i64 x25], none⟩] [⟨ai, x_v10.length, aj, 153, 3, a6, 0⟩, ⟨l, x_v11.length, m, 158, 2, a7, 0⟩] (World.drew c3) := cr.addPlc (cs := [.int .i64 x25]) (fun j c hj => e1 j _ (map_get hj)) rfl (by kernel_rfl) (by kernel_rfl)
    refine D_index 6 (x_v12) [.int .i64 x25] (fun _ _ _ _ _ h => h) rfl rfl (rfl) rfl (by decide) (by kernel_rfl) (by kernel_rfl) fp cr.plOk (by rfl) (by rfl) (by rfl) es (by rfl) hl hv (by kernel_rfl) fun iz (fq : Kn 102 [(g, 0), (k, 0), (ak, al + (x_v12 : Int).toNat * 3), (am, 0), (ap, au + (x_v12 : Int).toNat * 1)] ((tP 25 4 0) :: (tI 24 x_v12) :: (tS 23 aa t_.tm.length ac) :: (tI 21 x17.stop) :: (K93m10 ai x_v10 aj x_v12 w_ b d l x_v11 m)) iz) => ?_
    refine D_run [7, 8, 9, 10, 11] [11, 10, 9, 8, 7, 6, 5, 4, 3, 2, 1, 0] [30, 29, 26, 21, 19, 6, 14, 13, 12, 5, 3, 2] ((tI 30 x_v12) :: (tS 29 q w_.acts.holds.length x) :: (tI 26 x25) :: (tI 21 x17.stop) :: (K93m10 ai x_v10 aj x_v12 w_ b d l x_v11 m)) (fun _ _ _ _ _ h => h) fq dg.plOk (by kernel_rfl) (by rfl) (by kernel_rfl) fun j6 fs => ?_
    obtain ⟨x31, ex31, ar⟩ := bnd ar
    obtain ⟨hn, hw, il⟩ := idx_some ex31
    obtain ⟨av, aw, jx, et, ia, e2⟩ := bk.get (by decide) il
    obtain rfl := ia
    have dh : Mem ⟨w, h, noX⟩ aq [(g, 0), (k, 0), (ak, al + (x_v12 : Int).toNat * 3), (am, 0), (ap, au + (x_v12 : Int).toNat * 1), (av, aw + (x_v12 : Int).toNat * 1)] [⟨(K93c8 ae w_ af b d e f q x s y u z), some 115⟩, ⟨(K93c3 aa t_ ac ab ad o p), some 76⟩, ⟨(K93c2 x17), none⟩, ⟨(K93c2 x17), some 96⟩, ⟨[.int .i64 x25], none⟩, ⟨[.int .i64 x31], none⟩] [⟨ai, x_v10.length, aj, 153, 3, a6, 0⟩, ⟨l, x_v11.length, m, 158, 2, a7, 0⟩] (World.drew c3) := dg.addPlc (cs := [.int .i64 x31]) (fun j c hj => e2 j _ (map_get hj)) rfl (by kernel_rfl) (by kernel_rfl)
    refine D_index 12 (x_v12) [.int .i64 x31] (fun _ _ _ _ _ h => h) rfl rfl (rfl) rfl (by decide) (by kernel_rfl) (by kernel_rfl) fs dg.plOk (by rfl) (by rfl) (by rfl) et (by rfl) hn hw (by kernel_rfl) fun i0 (ft : Kn 102 [(g, 0), (k, 0), (ak, al + (x_v12 : Int).toNat * 3), (am, 0), (ap, au + (x_v12 : Int).toNat * 1), (av, aw + (x_v12 : Int).toNat * 1)] ((tP 31 5 0) :: (tI 30 x_v12) :: (tS 29 q w_.acts.holds.length x) :: (tI 26 x25) :: (tI 21 x17.stop) :: (K93m10 ai x_v10 aj x_v12 w_ b d l x_v11 m)) i0) => ?_
    refine D_run [13, 14, 15, 16, 17, 18, 19, 20, 21, 22] [22, 21, 20, 19, 18, 17, 16, 15, 14, 13, 12, 11, 10, 9, 8, 7, 6, 5, 4, 3, 2, 1, 0] [41, 40, 37, 21, 19, 6, 14, 13, 12, 5, 3, 2] ((tI 41 x_v12) :: (tS 40 s w_.acts.turns.length y) :: (tI 37 (IntKind.i64.wrap (x25 + (IntKind.i64.wrap (x31 * w_.route.unit))))) :: (tI 21 x17.stop) :: (K93m10 ai x_v10 aj x_v12 w_ b d l x_v11 m)) (fun _ _ _ _ _ h => h) ft dh.plOk (by kernel_rfl) (by rfl) (by kernel_rfl) fun j7 fu => ?_
    obtain ⟨x42, ex42, ar⟩ := bnd ar
    obtain ⟨ho, hx, im⟩ := idx_some ex42
    obtain ⟨a2, a4, jy, eu, ib, e3⟩ := bl.get (by decide) im
    obtain rfl := ib
    have ed : Mem ⟨w, h, noX⟩ aq (K93e5 g k ak al x_v12 am ap au av aw a2 a4) [⟨(K93c8 ae w_ af b d e f q x s y u z), some 115⟩, ⟨(K93c3 aa t_ ac ab ad o p), some 76⟩, ⟨(K93c2 x17), none⟩, ⟨(K93c2 x17), some 96⟩, ⟨[.int .i64 x25], none⟩, ⟨[.int .i64 x31], none⟩, ⟨[.int .i64 x42], none⟩] [⟨ai, x_v10.length, aj, 153, 3, a6, 0⟩, ⟨l, x_v11.length, m, 158, 2, a7, 0⟩] (World.drew c3) := dh.addPlc (cs := [.int .i64 x42]) (fun j c hj => e3 j _ (map_get hj)) rfl (by kernel_rfl) (by kernel_rfl)
    refine D_index 23 (x_v12) [.int .i64 x42] (fun _ _ _ _ _ h => h) rfl rfl (rfl) rfl (by decide) (by kernel_rfl) (by kernel_rfl) fu dh.plOk (by rfl) (by rfl) (by rfl) eu (by rfl) ho hx (by kernel_rfl) fun i1 (fv : Kn 102 (K93e5 g k ak al x_v12 am ap au av aw a2 a4) ((tP 42 6 0) :: (tI 41 x_v12) :: (tS 40 s w_.acts.turns.length y) :: (tI 37 (IntKind.i64.wrap (x25 + (IntKind.i64.wrap (x31 * w_.route.unit))))) :: (tI 21 x17.stop) :: (K93m10 ai x_v10 aj x_v12 w_ b d l x_v11 m)) i1) => ?_
    refine D_run [24, 25] [25, 24, 23, 22, 21, 20, 19, 18, 17, 16, 15, 14, 13, 12, 11, 10, 9, 8, 7, 6, 5, 4, 3, 2, 1, 0] [44, 19, 6, 14, 13, 12, 5, 3, 2] ((tA 44 (K93c4 x17 x25 x31 w_ x42)) :: (K93m10 ai x_v10 aj x_v12 w_ b d l x_v11 m)) (fun _ _ _ _ _ h => h) fv ed.plOk (by kernel_rfl) (by rfl) (by kernel_rfl) fun j8 fw => ?_
    refine D_loud 26 rfl (by kernel_rfl) (by decide) (rfl) fun K hK => ?_
    refine wp_buildSlice 153 3 (K93c4 x17 x25 x31 w_ x42) fw ed rfl rfl (by decide) (by kernel_rfl) (by rfl) (by rfl) rfl (by decide) fun b2 i2 jl (fx : Kn 102 (K93e5 g k ak al x_v12 am ap au av aw a2 a4) ((tS 45 b2 1 1) :: (tA 44 (K93c4 x17 x25 x31 w_ x42)) :: (K93m10 ai x_v10 aj x_v12 w_ b d l x_v11 m)) i2) (di : Mem ⟨w, h, noX⟩ aq (K93e5 g k ak al x_v12 am ap au av aw a2 a4) [⟨(K93c8 ae w_ af b d e f q x s y u z), some 115⟩, ⟨(K93c3 aa t_ ac ab ad o p), some 76⟩, ⟨(K93c2 x17), none⟩, ⟨(K93c2 x17), some 96⟩, ⟨[.int .i64 x25], none⟩, ⟨[.int .i64 x31], none⟩, ⟨[.int .i64 x42], none⟩] [⟨ai, x_v10.length, aj, 153, 3, a6, 0⟩, ⟨l, x_v11.length, m, 158, 2, a7, 0⟩, ⟨b2, 1, 1, 153, 3, ([.int .i64 x17.stop, .int .i64 (IntKind.i64.wrap (x25 + (IntKind.i64.wrap (x31 * w_.route.unit)))), .int .i64 x42] : List Value), 0⟩] jl) => ?_
    have c7 : Cells aq ([(Trip.mk x17.stop (IntKind.i64.wrap (x25 + (IntKind.i64.wrap (x31 * w_.route.unit)))) x42)] : List Trip) ([.int .i64 x17.stop, .int .i64 (IntKind.i64.wrap (x25 + (IntKind.i64.wrap (x31 * w_.route.unit)))), .int .i64 x42] : List Value) := ⟨_, _, rfl, ((rep_pair rep_int (rep_pair rep_int rep_int)) : rep aq ((Trip.mk x17.stop (IntKind.i64.wrap (x25 + (IntKind.i64.wrap (x31 * w_.route.unit)))) x42) : Trip) _), rfl⟩
    refine hK _ _ di.plOk ?_
    obtain ⟨x46, ex46, ar⟩ := bnd ar
    obtain ⟨ds, ha⟩ := app_some ex46
    refine D_loud 27 rfl (by kernel_rfl) (by decide) (rfl) fun K hK => ?_
    refine wp_append 0 24 1 _ (x46.length) _ ([.int .i64 x17.stop, .int .i64 (IntKind.i64.wrap (x25 + (IntKind.i64.wrap (x31 * w_.route.unit)))), .int .i64 x42] : List Value) fx di rfl rfl (by decide) rfl (by rfl) (by kernel_rfl) (by rfl) (by rfl) (Cells.len c7) (di.rowCell (i := 2) rfl) c7.one (by rw [ds]; simp) (by rw [ds]; exact ha) (by decide) fun a8 a9 d5 i3 d1 fi (fy : Kn 102 [(g, 0), (k, 0), (ak, al + (x_v12 : Int).toNat * 3), (am, 0), (ap, au + (x_v12 : Int).toNat * 1), (av, aw + (x_v12 : Int).toNat * 1), (a2, a4 + (x_v12 : Int).toNat * 1)] [(46, .one (.c (.slice a8 x46.length a9))), (45, .one (.c (.slice b2 1 1))), (44, .one (.agg [.int .i64 x17.stop, .int .i64 (IntKind.i64.wrap (x25 + (IntKind.i64.wrap (x31 * w_.route.unit)))), .int .i64 x42])), (19, .one (.c (.slice ai x_v10.length aj))), (6, .one (.c (.int .i64 x_v12))), (14, .one (.c (.int .i64 x_v12))), (13, .one (.c (.int .i64 ((w_.route.buses.length : Nat) : Int)))), (12, .one (.c (.slice b w_.route.buses.length d))), (5, .one (.c (.slice l x_v11.length m))), (3, .one (.c (.ptr 1 0))), (2, .one (.c (.ptr 0 0)))] i3) (cd : Mem ⟨w, h, noX⟩ aq [(g, 0), (k, 0), (ak, al + (x_v12 : Int).toNat * 3), (am, 0), (ap, au + (x_v12 : Int).toNat * 1), (av, aw + (x_v12 : Int).toNat * 1), (a2, a4 + (x_v12 : Int).toNat * 1)] [⟨[.slice ae w_.route.legs.length af, .int .i64 w_.route.turn.lo, .int .i64 w_.route.turn.hi, .slice b w_.route.buses.length d, .slice e w_.route.spares.length f, .int .i64 w_.route.unit, .int .i64 w_.route.gap, .int .i64 w_.route.fr, .int .i64 w_.route.to_, .slice q w_.acts.holds.length x, .slice s w_.acts.turns.length y, .slice u w_.acts.spares.length z], some 115⟩, ⟨[.slice aa t_.tm.length ac, .slice ab t_.turns.length ad, .slice o t_.legs.length p], some 76⟩, ⟨[.int .i64 x17.stop, .int .i64 x17.tm.lo, .int .i64 x17.tm.hi], none⟩, ⟨[.int .i64 x17.stop, .int .i64 x17.tm.lo, .int .i64 x17.tm.hi], some 96⟩, ⟨[.int .i64 x25], none⟩, ⟨[.int .i64 x31], none⟩, ⟨[.int .i64 x42], none⟩] [⟨a8, x46.length, a9, 153, 3, (a6 ++ ([.int .i64 x17.stop, .int .i64 (IntKind.i64.wrap (x25 + (IntKind.i64.wrap (x31 * w_.route.unit)))), .int .i64 x42] : List Value)), d5⟩, ⟨l, x_v11.length, m, 158, 2, a7, 0⟩, ⟨b2, 1, 1, 153, 3, ([.int .i64 x17.stop, .int .i64 (IntKind.i64.wrap (x25 + (IntKind.i64.wrap (x31 * w_.route.unit)))), .int .i64 x42] : List Value), 0⟩] d1) => ?_
    have e4 : Cells aq x46 (a6 ++ ([.int .i64 x17.stop, .int .i64 (IntKind.i64.wrap (x25 + (IntKind.i64.wrap (x31 * w_.route.unit)))), .int .i64 x42] : List Value)) := by rw [ds]; exact Cells.append eb c7
    obtain rfl : d5 = 0 := Nat.le_zero.1 fi
    refine hK _ _ cd.plOk ?_
    refine D_run [28] [28, 27, 26, 25, 24, 23, 22, 21, 20, 19, 18, 17, 16, 15, 14, 13, 12, 11, 10, 9, 8, 7, 6, 5, 4, 3, 2, 1, 0] [4, 6, 14, 13, 12, 5, 3, 2] [(tS 4 a8 x46.length a9), (tI 6 x_v12), (tI 14 x_v12), (tI 13 ((w_.route.buses.length : Nat) : Int)), (tS 12 b w_.route.buses.length d), (tS 5 l x_v11.length m), (tP 3 1 0), (tP 2 0 0)] (fun _ _ _ _ _ h => h) fy cd.plOk (by kernel_rfl) (by rfl) (by kernel_rfl) fun j9 fz => ?_
    refine wpD_end (by kernel_rfl) (wp_region_G (by kernel_rfl) ?_)
    replace cd := cd.drew
    refine wpG_of_D [] (K93e5 g k ak al x_v12 am ap au av aw a2 a4) [⟨(K93c8 ae w_ af b d e f q x s y u z), some 115⟩, ⟨(K93c3 aa t_ ac ab ad o p), some 76⟩, ⟨(K93c2 x17), none⟩, ⟨(K93c2 x17), some 96⟩, ⟨[.int .i64 x25], none⟩, ⟨[.int .i64 x31], none⟩, ⟨[.int .i64 x42], none⟩] ?_
    refine D_run [0, 1, 2, 3] [3, 2, 1, 0] [50, 49, 47, 4, 6, 14, 13, 12, 3, 2] ((tI 50 x_v12) :: (tS 49 o t_.legs.length p) :: (tS 47 l x_v11.length m) :: (tS 4 a8 x46.length a9) :: (tI 6 x_v12) :: (tI 14 x_v12) :: (K93m12 w_ b d)) (fun _ _ _ _ _ h => h) fz cd.plOk (by kernel_rfl) (by rfl) (by kernel_rfl) fun ka f0 => ?_
    obtain ⟨x51, ex51, ar⟩ := bnd ar
    obtain ⟨hp, hy, io⟩ := idx_some ex51
    obtain ⟨bx, bz, jz, ev, ic, e5⟩ := bi.get (by decide) io
    obtain ⟨a1, a3, rfl, h4⟩ := ic
    have dj : Mem ⟨w, h, noX⟩ aq [(g, 0), (k, 0), (ak, al + (x_v12 : Int).toNat * 3), (am, 0), (ap, au + (x_v12 : Int).toNat * 1), (av, aw + (x_v12 : Int).toNat * 1), (a2, a4 + (x_v12 : Int).toNat * 1), (bx, bz + (x_v12 : Int).toNat * 1)] [⟨(K93c8 ae w_ af b d e f q x s y u z), some 115⟩, ⟨(K93c3 aa t_ ac ab ad o p), some 76⟩, ⟨(K93c2 x17), none⟩, ⟨(K93c2 x17), some 96⟩, ⟨[.int .i64 x25], none⟩, ⟨[.int .i64 x31], none⟩, ⟨[.int .i64 x42], none⟩, ⟨[.slice a1 x51.length a3], none⟩] [⟨a8, x46.length, a9, 153, 3, (a6 ++ ([.int .i64 x17.stop, .int .i64 (IntKind.i64.wrap (x25 + (IntKind.i64.wrap (x31 * w_.route.unit)))), .int .i64 x42] : List Value)), 0⟩, ⟨l, x_v11.length, m, 158, 2, a7, 0⟩, ⟨b2, 1, 1, 153, 3, ([.int .i64 x17.stop, .int .i64 (IntKind.i64.wrap (x25 + (IntKind.i64.wrap (x31 * w_.route.unit)))), .int .i64 x42] : List Value), 0⟩] (World.drew d1) := cd.addPlc (cs := [.slice a1 x51.length a3]) (fun j c hj => e5 j _ (map_get hj)) rfl (by kernel_rfl) (by kernel_rfl)
    refine D_index 4 (x_v12) [.slice a1 x51.length a3] (fun _ _ _ _ _ h => h) rfl rfl (rfl) rfl (by decide) (by kernel_rfl) (by kernel_rfl) f0 cd.plOk (by rfl) (by rfl) (by rfl) ev (by rfl) hp hy (by kernel_rfl) fun i4 (f1 : Kn 102 [(g, 0), (k, 0), (ak, al + (x_v12 : Int).toNat * 3), (am, 0), (ap, au + (x_v12 : Int).toNat * 1), (av, aw + (x_v12 : Int).toNat * 1), (a2, a4 + (x_v12 : Int).toNat * 1), (bx, bz + (x_v12 : Int).toNat * 1)] ((tP 51 7 0) :: (tI 50 x_v12) :: (tS 49 o t_.legs.length p) :: (tS 47 l x_v11.length m) :: (tS 4 a8 x46.length a9) :: (tI 6 x_v12) :: (tI 14 x_v12) :: (K93m12 w_ b d)) i4) => ?_
    refine D_run [5, 6, 7, 8] [8, 7, 6, 5, 4, 3, 2, 1, 0] [55, 54, 52, 47, 4, 14, 13, 12, 3, 2] ((tI 55 x_v12) :: (tS 54 ab t_.turns.length ad) :: (tS 52 a1 x51.length a3) :: (tS 47 l x_v11.length m) :: (tS 4 a8 x46.length a9) :: (tI 14 x_v12) :: (K93m12 w_ b d)) (fun _ _ _ _ _ h => h) f1 dj.plOk (by kernel_rfl) (by rfl) (by kernel_rfl) fun kb f2 => ?_
    obtain ⟨x56, ex56, ar⟩ := bnd ar
    obtain ⟨hq, hz, ip⟩ := idx_some ex56
    obtain ⟨b5, b9, j0, ew, ie, e6⟩ := bo.get (by decide) ip
    obtain rfl := ie
    have ee : Mem ⟨w, h, noX⟩ aq (K93e7 g k ak al x_v12 am ap au av aw a2 a4 bx bz b5 b9) [⟨(K93c8 ae w_ af b d e f q x s y u z), some 115⟩, ⟨(K93c3 aa t_ ac ab ad o p), some 76⟩, ⟨(K93c2 x17), none⟩, ⟨(K93c2 x17), some 96⟩, ⟨[.int .i64 x25], none⟩, ⟨[.int .i64 x31], none⟩, ⟨[.int .i64 x42], none⟩, ⟨[.slice a1 x51.length a3], none⟩, ⟨[.int .i64 x56], none⟩] [⟨a8, x46.length, a9, 153, 3, (a6 ++ ([.int .i64 x17.stop, .int .i64 (IntKind.i64.wrap (x25 + (IntKind.i64.wrap (x31 * w_.route.unit)))), .int .i64 x42] : List Value)), 0⟩, ⟨l, x_v11.length, m, 158, 2, a7, 0⟩, ⟨b2, 1, 1, 153, 3, ([.int .i64 x17.stop, .int .i64 (IntKind.i64.wrap (x25 + (IntKind.i64.wrap (x31 * w_.route.unit)))), .int .i64 x42] : List Value), 0⟩] (World.drew d1) := dj.addPlc (cs := [.int .i64 x56]) (fun j c hj => e6 j _ (map_get hj)) rfl (by kernel_rfl) (by kernel_rfl)
    refine D_index 9 (x_v12) [.int .i64 x56] (fun _ _ _ _ _ h => h) rfl rfl (rfl) rfl (by decide) (by kernel_rfl) (by kernel_rfl) f2 dj.plOk (by rfl) (by rfl) (by rfl) ew (by rfl) hq hz (by kernel_rfl) fun i5 (f3 : Kn 102 (K93e7 g k ak al x_v12 am ap au av aw a2 a4 bx bz b5 b9) ((tP 56 8 0) :: (tI 55 x_v12) :: (tS 54 ab t_.turns.length ad) :: (tS 52 a1 x51.length a3) :: (tS 47 l x_v11.length m) :: (tS 4 a8 x46.length a9) :: (tI 14 x_v12) :: (K93m12 w_ b d)) i5) => ?_
    refine D_run [10, 11] [11, 10, 9, 8, 7, 6, 5, 4, 3, 2, 1, 0] [58, 47, 4, 14, 13, 12, 3, 2] ((tA 58 [.slice a1 x51.length a3, .int .i64 x56]) :: (tS 47 l x_v11.length m) :: (tS 4 a8 x46.length a9) :: (tI 14 x_v12) :: (K93m12 w_ b d)) (fun _ _ _ _ _ h => h) f3 ee.plOk (by kernel_rfl) (by rfl) (by kernel_rfl) fun kc f4 => ?_
    refine D_loud 12 rfl (by kernel_rfl) (by decide) (rfl) fun K hK => ?_
    refine wp_buildSlice 158 2 [.slice a1 x51.length a3, .int .i64 x56] f4 ee rfl rfl (by decide) (by kernel_rfl) (by rfl) (by rfl) rfl (by decide) fun cu i6 jm (f5 : Kn 102 (K93e7 g k ak al x_v12 am ap au av aw a2 a4 bx bz b5 b9) ((tS 59 cu 1 1) :: (tA 58 [.slice a1 x51.length a3, .int .i64 x56]) :: (tS 47 l x_v11.length m) :: (tS 4 a8 x46.length a9) :: (tI 14 x_v12) :: (K93m12 w_ b d)) i6) (dk : Mem ⟨w, h, noX⟩ aq (K93e7 g k ak al x_v12 am ap au av aw a2 a4 bx bz b5 b9) [⟨(K93c8 ae w_ af b d e f q x s y u z), some 115⟩, ⟨(K93c3 aa t_ ac ab ad o p), some 76⟩, ⟨(K93c2 x17), none⟩, ⟨(K93c2 x17), some 96⟩, ⟨[.int .i64 x25], none⟩, ⟨[.int .i64 x31], none⟩, ⟨[.int .i64 x42], none⟩, ⟨[.slice a1 x51.length a3], none⟩, ⟨[.int .i64 x56], none⟩] [⟨a8, x46.length, a9, 153, 3, (a6 ++ ([.int .i64 x17.stop, .int .i64 (IntKind.i64.wrap (x25 + (IntKind.i64.wrap (x31 * w_.route.unit)))), .int .i64 x42] : List Value)), 0⟩, ⟨l, x_v11.length, m, 158, 2, a7, 0⟩, ⟨b2, 1, 1, 153, 3, ([.int .i64 x17.stop, .int .i64 (IntKind.i64.wrap (x25 + (IntKind.i64.wrap (x31 * w_.route.unit)))), .int .i64 x42] : List Value), 0⟩, ⟨cu, 1, 1, 158, 2, ([.slice a1 x51.length a3, .int .i64 x56] : List Value), 0⟩] jm) => ?_
    have c8 : Cells aq ([(Times.mk x51 x56)] : List Times) ([.slice a1 x51.length a3, .int .i64 x56] : List Value) := ⟨_, _, rfl, ((rep_pair (rep_slice h4) rep_int) : rep aq ((Times.mk x51 x56) : Times) _), rfl⟩
    refine hK _ _ dk.plOk ?_
    obtain ⟨x60, ex60, ar⟩ := bnd ar
    obtain ⟨dt, hb⟩ := app_some ex60
    refine D_loud 13 rfl (by kernel_rfl) (by decide) (rfl) fun K hK => ?_
    refine wp_append 1 32 1 _ (x60.length) _ ([.slice a1 x51.length a3, .int .i64 x56] : List Value) f5 dk rfl rfl (by decide) rfl (by rfl) (by kernel_rfl) (by rfl) (by rfl) (Cells.len c8) (dk.rowCell (i := 3) rfl) c8.one (by rw [dt]; simp) (by rw [dt]; exact hb) (by decide) fun cg ck d6 i7 jn fj (f6 : Kn 102 [(g, 0), (k, 0), (ak, al + (x_v12 : Int).toNat * 3), (am, 0), (ap, au + (x_v12 : Int).toNat * 1), (av, aw + (x_v12 : Int).toNat * 1), (a2, a4 + (x_v12 : Int).toNat * 1), (bx, bz + (x_v12 : Int).toNat * 1), (b5, b9 + (x_v12 : Int).toNat * 1)] [(60, .one (.c (.slice cg x60.length ck))), (59, .one (.c (.slice cu 1 1))), (58, .one (.agg [.slice a1 x51.length a3, .int .i64 x56])), (47, .one (.c (.slice l x_v11.length m))), (4, .one (.c (.slice a8 x46.length a9))), (14, .one (.c (.int .i64 x_v12))), (13, .one (.c (.int .i64 ((w_.route.buses.length : Nat) : Int)))), (12, .one (.c (.slice b w_.route.buses.length d))), (3, .one (.c (.ptr 1 0))), (2, .one (.c (.ptr 0 0)))] i7) (cw : Mem ⟨w, h, noX⟩ aq [(g, 0), (k, 0), (ak, al + (x_v12 : Int).toNat * 3), (am, 0), (ap, au + (x_v12 : Int).toNat * 1), (av, aw + (x_v12 : Int).toNat * 1), (a2, a4 + (x_v12 : Int).toNat * 1), (bx, bz + (x_v12 : Int).toNat * 1), (b5, b9 + (x_v12 : Int).toNat * 1)] [⟨[.slice ae w_.route.legs.length af, .int .i64 w_.route.turn.lo, .int .i64 w_.route.turn.hi, .slice b w_.route.buses.length d, .slice e w_.route.spares.length f, .int .i64 w_.route.unit, .int .i64 w_.route.gap, .int .i64 w_.route.fr, .int .i64 w_.route.to_, .slice q w_.acts.holds.length x, .slice s w_.acts.turns.length y, .slice u w_.acts.spares.length z], some 115⟩, ⟨[.slice aa t_.tm.length ac, .slice ab t_.turns.length ad, .slice o t_.legs.length p], some 76⟩, ⟨[.int .i64 x17.stop, .int .i64 x17.tm.lo, .int .i64 x17.tm.hi], none⟩, ⟨[.int .i64 x17.stop, .int .i64 x17.tm.lo, .int .i64 x17.tm.hi], some 96⟩, ⟨[.int .i64 x25], none⟩, ⟨[.int .i64 x31], none⟩, ⟨[.int .i64 x42], none⟩, ⟨[.slice a1 x51.length a3], none⟩, ⟨[.int .i64 x56], none⟩] [⟨a8, x46.length, a9, 153, 3, (a6 ++ ([.int .i64 x17.stop, .int .i64 (IntKind.i64.wrap (x25 + (IntKind.i64.wrap (x31 * w_.route.unit)))), .int .i64 x42] : List Value)), 0⟩, ⟨cg, x60.length, ck, 158, 2, (a7 ++ ([.slice a1 x51.length a3, .int .i64 x56] : List Value)), d6⟩, ⟨b2, 1, 1, 153, 3, ([.int .i64 x17.stop, .int .i64 (IntKind.i64.wrap (x25 + (IntKind.i64.wrap (x31 * w_.route.unit)))), .int .i64 x42] : List Value), 0⟩, ⟨cu, 1, 1, 158, 2, ([.slice a1 x51.length a3, .int .i64 x56] : List Value), 0⟩] jn) => ?_
    have e7 : Cells aq x60 (a7 ++ ([.slice a1 x51.length a3, .int .i64 x56] : List Value)) := by rw [dt]; exact Cells.append ec c8
    obtain rfl : d6 = 0 := Nat.le_zero.1 fj
    refine hK _ _ cw.plOk ?_
    refine D_run [14] [14, 13, 12, 11, 10, 9, 8, 7, 6, 5, 4, 3, 2, 1, 0] [5, 4, 14, 13, 12, 3, 2] ((tS 5 cg x60.length ck) :: (tS 4 a8 x46.length a9) :: (tI 14 x_v12) :: (K93m12 w_ b d)) (fun _ _ _ _ _ h => h) f6 cw.plOk (by kernel_rfl) (by rfl) (by kernel_rfl) fun kd f7 => ?_
    refine wpD_end (by kernel_rfl) (wp_region_from (R_runk 0 2 [14, 5, 4, 13, 12, 3, 2] ((tI 14 (IntKind.i64.wrap (x_v12 + 1))) :: (tS 5 cg x60.length ck) :: (tS 4 a8 x46.length a9) :: (K93m12 w_ b d)) f7 cw.plOk (by kernel_rfl) fun ke f8 => ?_))
    refine wpFrom_end (by decide) ?_
    exact Exists.intro dw ⟨Nat.lt_succ_self _, Exists.intro x46 ⟨x60, (IntKind.i64.wrap (x_v12 + 1)), a8, a9, (a6 ++ ([.int .i64 x17.stop, .int .i64 (IntKind.i64.wrap (x25 + (IntKind.i64.wrap (x31 * w_.route.unit)))), .int .i64 x42] : List Value)), cg, ck, (a7 ++ ([.slice a1 x51.length a3, .int .i64 x56] : List Value)), _, _, rfl, ((f8.keep [14, 13, 12, 5, 4, 3, 2] (by rfl)).cut 2 (by kernel_rfl)), ((cw.cutRw 2).cutPl 2 (by kernel_rfl)), bv, e4, e7, ar⟩⟩
   ·
    rw [c6, cond_false] at ar
    refine wp_exit ?_
    obtain rfl := Option.some.inj ar
    exact Exists.intro ai ⟨aj, a6, l, m, a7, _, _, rfl, (df.keep [5, 4, 3, 2] (by rfl)), cz, bv, eb, ec⟩
 ·
  rintro _ ky ⟨ci, cm, c1, cj, cn, c2, dz, cc, rfl, f9, ef, b0, ff, fg⟩
  replace bt := bt.mono b0
  replace bp := bp.mono b0
  replace bq := bq.mono b0
  replace bk := bk.mono b0
  replace bl := bl.mono b0
  replace bm := bm.mono b0
  replace bn := bn.mono b0
  replace bo := bo.mono b0
  replace bi := bi.mono b0
  refine wp_seq (wp_seq (wp_region_from (R_runk 0 5 [66, 65, 64, 5, 4, 3, 2] [(tI 66 0), (tI 65 ((w_.route.spares.length : Nat) : Int)), (tS 64 e w_.route.spares.length f), (tS 5 cj bw.2.length cn), (tS 4 ci bw.1.length cm), (tP 3 1 0), (tP 2 0 0)] f9 ef.plOk (by kernel_rfl) fun kf ga => ?_)))
  refine wpFrom_end (by decide) ?_
  obtain ⟨ba, d3, H⟩ := bnd H
  refine wp_mid' (fun a' w' => ∃ (b3 : Option Addr) (b7 : Nat) (ce : List Value) (b4 : Option Addr) (b8 : Nat) (cf : List Value) (dx : Array Value) (co : Heap), a' = ⟨dx, []⟩ ∧ Kn 102 [(g, 0), (k, 0)] [(tS 5 b4 ba.2.length b8), (tS 4 b3 ba.1.length b7)] dx ∧ Mem ⟨w, h, noX⟩ co [(g, 0), (k, 0)] [⟨(K93c8 ae w_ af b d e f q x s y u z), some 115⟩, ⟨(K93c3 aa t_ ac ab ad o p), some 76⟩] [⟨b3, ba.1.length, b7, 153, 3, ce, 0⟩, ⟨b4, ba.2.length, b8, 158, 2, cf, 0⟩] w' ∧ Heap.le cc co ∧ Cells co ba.1 ce ∧ Cells co ba.2 cf) ?_ ?_
  ·
   refine wp_block ?_
   refine wp_loop_n (fun iw a' w' => ∃ (x_v20 : List Trip) (x_v21 : List Times) (x_v22 : Int) (an : Option Addr) (ao : Nat) (bd : List Value) (ag : Option Addr) (ah : Nat) (be : List Value) (dy : Array Value) (ay : Heap), a' = ⟨dy, []⟩ ∧ Kn 102 [(g, 0), (k, 0)] ((tI 66 x_v22) :: (K93m9 w_ e f ag x_v21 ah an x_v20 ao)) dy ∧ Mem ⟨w, h, noX⟩ ay [(g, 0), (k, 0)] [⟨(K93c8 ae w_ af b d e f q x s y u z), some 115⟩, ⟨(K93c3 aa t_ ac ab ad o p), some 76⟩] [⟨an, x_v20.length, ao, 153, 3, bd, 0⟩, ⟨ag, x_v21.length, ah, 158, 2, be, 0⟩] w' ∧ Heap.le cc ay ∧ Cells ay x_v20 bd ∧ Cells ay x_v21 be ∧ control_worked_trips_l2 iw w_ t_ x_v20 x_v21 x_v22 = some ba) n ?_ ?_
   ·
    exact Exists.intro bw.1 ⟨bw.2, 0, ci, cm, c1, cj, cn, c2, _, _, rfl, (ga.keep [66, 65, 64, 5, 4, 3, 2] (by rfl)), ef, (Heap.le_refl _), ff, fg, d3⟩
   ·
    rintro c0 _ jo ⟨x_v20, x_v21, x_v22, an, ao, bd, ag, ah, be, dy, ay, rfl, gb, cx, br, c9, da, az⟩
    clear d3
    obtain _ | c0 := c0
    ·
     rw [control_worked_trips_l2] at az; cases az
    rw [control_worked_trips_l2] at az
    replace bt := bt.mono br
    replace bp := bp.mono br
    replace bq := bq.mono br
    replace bk := bk.mono br
    replace bl := bl.mono br
    replace bm := bm.mono br
    replace bn := bn.mono br
    replace bo := bo.mono br
    replace bi := bi.mono br
    refine wp_seq (wp_region_from (R_runk 0 1 [67, 66, 65, 64, 5, 4, 3, 2] ((tB 67 (decide (x_v22 < ((w_.route.spares.length : Nat) : Int)))) :: (tI 66 x_v22) :: (K93m9 w_ e f ag x_v21 ah an x_v20 ao)) gb cx.plOk (by kernel_rfl) fun kg dd => ?_))
    refine wpFrom_end (by decide) (wp_seq (wp_cond_sv (decide (x_v22 < ((w_.route.spares.length : Nat) : Int))) dd (by kernel_rfl) (fun c4 => ?_) (fun c4 => ?_)))
    ·
     rw [c4, cond_true] at az
     refine wp_skip (wp_seq (wp_block (wp_seq (wp_region_from (R_runk 0 1 [68, 66, 65, 64, 5, 4, 3, 2] ((tI 68 x_v22) :: (tI 66 x_v22) :: (K93m9 w_ e f ag x_v21 ah an x_v20 ao)) dd cx.plOk (by kernel_rfl) fun kh gc => ?_)))))
     obtain ⟨x69, ex69, az⟩ := bnd az
     obtain ⟨hr, h0, iq⟩ := idx_some ex69
     obtain ⟨ax, a0, j1, ex, ig, e8⟩ := bq.get (by decide) iq
     obtain ⟨_, _, rfl, rfl, rfl⟩ := ig
     have eg : Mem ⟨w, h, noX⟩ ay [(g, 0), (k, 0), (ax, a0 + (x_v22 : Int).toNat * 2)] [⟨(K93c8 ae w_ af b d e f q x s y u z), some 115⟩, ⟨(K93c3 aa t_ ac ab ad o p), some 76⟩, ⟨(K93c1 x69), none⟩] [⟨an, x_v20.length, ao, 153, 3, bd, 0⟩, ⟨ag, x_v21.length, ah, 158, 2, be, 0⟩] jo := cx.addPlc (cs := (K93c1 x69)) (fun j c hj => e8 j _ (map_get hj)) rfl (by kernel_rfl) (by kernel_rfl)
     refine R_index 1 (x_v22) rfl rfl (rfl) rfl (by decide) gc (by rfl) (by rfl) (by rfl) ex (by rfl) hr h0 (by kernel_rfl) fun i8 (gd : Kn 102 [(g, 0), (k, 0), (ax, a0 + (x_v22 : Int).toNat * 2)] ((tP 69 2 0) :: (tI 68 x_v22) :: (tI 66 x_v22) :: (K93m9 w_ e f ag x_v21 ah an x_v20 ao)) i8) => ?_
     refine R_runk 2 1 [70, 68, 66, 65, 64, 5, 4, 3, 2] ((tA 70 (K93c1 x69)) :: (tI 68 x_v22) :: (tI 66 x_v22) :: (K93m9 w_ e f ag x_v21 ah an x_v20 ao)) gd eg.plOk (by kernel_rfl) fun ki gf => ?_
     refine wpFrom_loud _ rfl (rfl) fun K hK => ?_
     refine wp_alloc [.int .i64 0, .int .i64 0] gf eg rfl rfl (by decide) (by kernel_rfl) (by kernel_rfl) (by kernel_rfl) fun a5 i9 jp (gg : Kn 102 [(g, 0), (k, 0), (ax, a0 + (x_v22 : Int).toNat * 2), (a5, 0)] ((tP 9 3 0) :: (tA 70 (K93c1 x69)) :: (tI 68 x_v22) :: (tI 66 x_v22) :: (K93m9 w_ e f ag x_v21 ah an x_v20 ao)) i9) (eh : Mem ⟨w, h, noX⟩ ay [(g, 0), (k, 0), (ax, a0 + (x_v22 : Int).toNat * 2), (a5, 0)] [⟨(K93c8 ae w_ af b d e f q x s y u z), some 115⟩, ⟨(K93c3 aa t_ ac ab ad o p), some 76⟩, ⟨(K93c1 x69), none⟩, ⟨[.int .i64 0, .int .i64 0], some 110⟩] [⟨an, x_v20.length, ao, 153, 3, bd, 0⟩, ⟨ag, x_v21.length, ah, 158, 2, be, 0⟩] jp) => hK _ _ ?_
     refine R_runk 4 1 [8, 9, 70, 66, 65, 64, 5, 4, 3, 2] ((tI 8 x_v22) :: (tP 9 3 0) :: (tA 70 (K93c1 x69)) :: (tI 66 x_v22) :: (K93m9 w_ e f ag x_v21 ah an x_v20 ao)) gg eh.plOk (by kernel_rfl) fun ja gh => ?_
     refine wpFrom_loud _ rfl (rfl) fun K hK => ?_
     refine wp_store 3 0 (.agg (K93c1 x69)) (K93c1 x69) gh eh rfl rfl (by rfl) (by rfl) (by rfl) (by kernel_rfl) (by kernel_rfl) (by rfl) fun eo gi (ei : Mem ⟨w, h, noX⟩ ay [(g, 0), (k, 0), (ax, a0 + (x_v22 : Int).toNat * 2), (a5, 0)] [⟨(K93c8 ae w_ af b d e f q x s y u z), some 115⟩, ⟨(K93c3 aa t_ ac ab ad o p), some 76⟩, ⟨(K93c1 x69), none⟩, ⟨(K93c1 x69), some 110⟩] [⟨an, x_v20.length, ao, 153, 3, bd, 0⟩, ⟨ag, x_v21.length, ah, 158, 2, be, 0⟩] eo) => hK _ _ ?_
     have gj : Kn 102 [(g, 0), (k, 0), (ax, a0 + (x_v22 : Int).toNat * 2), (a5, 0)] ((tI 8 x_v22) :: (tP 9 3 0) :: (tI 66 x_v22) :: (K93m9 w_ e f ag x_v21 ah an x_v20 ao)) ja := gi.keep [8, 9, 66, 65, 64, 5, 4, 3, 2] (by rfl)
     refine wpFrom_end (by decide) (wp_seq (wp_region_from (R_runk 0 4 [74, 73, 8, 9, 66, 65, 64, 5, 4, 3, 2] ((tI 74 x_v22) :: (tS 73 u w_.acts.spares.length z) :: (tI 8 x_v22) :: (tP 9 3 0) :: (tI 66 x_v22) :: (K93m9 w_ e f ag x_v21 ah an x_v20 ao)) gj ei.plOk (by kernel_rfl) fun kj gk => ?_)))
     obtain ⟨x75, ex75, az⟩ := bnd az
     obtain ⟨hs, h1, ir⟩ := idx_some ex75
     obtain ⟨bh, bj, j2, ey, ih, e9⟩ := bm.get (by decide) ir
     obtain rfl := ih
     have ct : Mem ⟨w, h, noX⟩ ay [(g, 0), (k, 0), (ax, a0 + (x_v22 : Int).toNat * 2), (a5, 0), (bh, bj + (x_v22 : Int).toNat * 1)] [⟨(K93c8 ae w_ af b d e f q x s y u z), some 115⟩, ⟨(K93c3 aa t_ ac ab ad o p), some 76⟩, ⟨(K93c1 x69), none⟩, ⟨(K93c1 x69), some 110⟩, ⟨[.bool x75], none⟩] [⟨an, x_v20.length, ao, 153, 3, bd, 0⟩, ⟨ag, x_v21.length, ah, 158, 2, be, 0⟩] eo := ei.addPlc (cs := [.bool x75]) (fun j c hj => e9 j _ (map_get hj)) rfl (by kernel_rfl) (by kernel_rfl)
     refine R_index 4 (x_v22) rfl rfl (rfl) rfl (by decide) gk (by rfl) (by rfl) (by rfl) ey (by rfl) hs h1 (by kernel_rfl) fun jc (gl : Kn 102 [(g, 0), (k, 0), (ax, a0 + (x_v22 : Int).toNat * 2), (a5, 0), (bh, bj + (x_v22 : Int).toNat * 1)] ((tP 75 4 0) :: (tI 74 x_v22) :: (tS 73 u w_.acts.spares.length z) :: (tI 8 x_v22) :: (tP 9 3 0) :: (tI 66 x_v22) :: (K93m9 w_ e f ag x_v21 ah an x_v20 ao)) jc) => ?_
     refine R_runk 5 1 [76, 8, 9, 66, 65, 64, 5, 4, 3, 2] ((tB 76 x75) :: (tI 8 x_v22) :: (tP 9 3 0) :: (tI 66 x_v22) :: (K93m9 w_ e f ag x_v21 ah an x_v20 ao)) gl ct.plOk (by kernel_rfl) fun kk de => ?_
     refine wpFrom_end (by decide) (wp_cond_sv (x75) de (by kernel_rfl) (fun c5 => ?_) (fun c5 => ?_))
     ·
      rw [c5, cond_true] at az
      refine wp_seq (wp_region_from (R_runk 0 6 [82, 77, 8, 66, 65, 64, 5, 3, 2] ((tA 82 [.int .i64 x69.stop, .int .i64 x69.tm, .int .i64 (-1)]) :: (tS 77 an x_v20.length ao) :: (K93m14 x_v22 w_ e f ag x_v21 ah)) de ct.plOk (by kernel_rfl) fun kl gm => ?_))
      refine wpFrom_loud _ rfl (rfl) fun K hK => ?_
      refine wp_buildSlice 153 3 [.int .i64 x69.stop, .int .i64 x69.tm, .int .i64 (-1)] gm ct rfl rfl (by decide) (by kernel_rfl) (by rfl) (by rfl) rfl (by decide) fun cb jd jr (go : Kn 102 [(g, 0), (k, 0), (ax, a0 + (x_v22 : Int).toNat * 2), (a5, 0), (bh, bj + (x_v22 : Int).toNat * 1)] ((tS 83 cb 1 1) :: (tA 82 [.int .i64 x69.stop, .int .i64 x69.tm, .int .i64 (-1)]) :: (tS 77 an x_v20.length ao) :: (K93m14 x_v22 w_ e f ag x_v21 ah)) jd) (ej : Mem ⟨w, h, noX⟩ ay [(g, 0), (k, 0), (ax, a0 + (x_v22 : Int).toNat * 2), (a5, 0), (bh, bj + (x_v22 : Int).toNat * 1)] [⟨(K93c8 ae w_ af b d e f q x s y u z), some 115⟩, ⟨(K93c3 aa t_ ac ab ad o p), some 76⟩, ⟨(K93c1 x69), none⟩, ⟨(K93c1 x69), some 110⟩, ⟨[.bool x75], none⟩] [⟨an, x_v20.length, ao, 153, 3, bd, 0⟩, ⟨ag, x_v21.length, ah, 158, 2, be, 0⟩, ⟨cb, 1, 1, 153, 3, ([.int .i64 x69.stop, .int .i64 x69.tm, .int .i64 (-1)] : List Value), 0⟩] jr) => ?_
      have db : Cells ay ([(Trip.mk x69.stop x69.tm (-1))] : List Trip) ([.int .i64 x69.stop, .int .i64 x69.tm, .int .i64 (-1)] : List Value) := ⟨_, _, rfl, ((rep_pair rep_int (rep_pair rep_int rep_int)) : rep ay ((Trip.mk x69.stop x69.tm (-1)) : Trip) _), rfl⟩
      refine hK _ _ ?_
      obtain ⟨x84, ex84, az⟩ := bnd az
      obtain ⟨du, hc⟩ := app_some ex84
      refine wpFrom_loud _ rfl (rfl) fun K hK => ?_
      refine wp_append 0 24 1 _ (x84.length) _ ([.int .i64 x69.stop, .int .i64 x69.tm, .int .i64 (-1)] : List Value) go ej rfl rfl (by decide) rfl (by rfl) (by kernel_rfl) (by rfl) (by rfl) (Cells.len db) (ej.rowCell (i := 2) rfl) db.one (by rw [du]; simp) (by rw [du]; exact hc) (by decide) fun bb bc d7 je ep fk (gp : Kn 102 [(g, 0), (k, 0), (ax, a0 + (x_v22 : Int).toNat * 2), (a5, 0), (bh, bj + (x_v22 : Int).toNat * 1)] [(84, .one (.c (.slice bb x84.length bc))), (83, .one (.c (.slice cb 1 1))), (82, .one (.agg [.int .i64 x69.stop, .int .i64 x69.tm, .int .i64 (-1)])), (77, .one (.c (.slice an x_v20.length ao))), (8, .one (.c (.int .i64 x_v22))), (66, .one (.c (.int .i64 x_v22))), (65, .one (.c (.int .i64 ((w_.route.spares.length : Nat) : Int)))), (64, .one (.c (.slice e w_.route.spares.length f))), (5, .one (.c (.slice ag x_v21.length ah))), (3, .one (.c (.ptr 1 0))), (2, .one (.c (.ptr 0 0)))] je) (dl : Mem ⟨w, h, noX⟩ ay [(g, 0), (k, 0), (ax, a0 + (x_v22 : Int).toNat * 2), (a5, 0), (bh, bj + (x_v22 : Int).toNat * 1)] [⟨[.slice ae w_.route.legs.length af, .int .i64 w_.route.turn.lo, .int .i64 w_.route.turn.hi, .slice b w_.route.buses.length d, .slice e w_.route.spares.length f, .int .i64 w_.route.unit, .int .i64 w_.route.gap, .int .i64 w_.route.fr, .int .i64 w_.route.to_, .slice q w_.acts.holds.length x, .slice s w_.acts.turns.length y, .slice u w_.acts.spares.length z], some 115⟩, ⟨[.slice aa t_.tm.length ac, .slice ab t_.turns.length ad, .slice o t_.legs.length p], some 76⟩, ⟨[.int .i64 x69.stop, .int .i64 x69.tm], none⟩, ⟨[.int .i64 x69.stop, .int .i64 x69.tm], some 110⟩, ⟨[.bool x75], none⟩] [⟨bb, x84.length, bc, 153, 3, (bd ++ ([.int .i64 x69.stop, .int .i64 x69.tm, .int .i64 (-1)] : List Value)), d7⟩, ⟨ag, x_v21.length, ah, 158, 2, be, 0⟩, ⟨cb, 1, 1, 153, 3, ([.int .i64 x69.stop, .int .i64 x69.tm, .int .i64 (-1)] : List Value), 0⟩] ep) => ?_
      have fa : Cells ay x84 (bd ++ ([.int .i64 x69.stop, .int .i64 x69.tm, .int .i64 (-1)] : List Value)) := by rw [du]; exact Cells.append c9 db
      obtain rfl : d7 = 0 := Nat.le_zero.1 fk
      refine hK _ _ ?_
      refine R_runk 8 1 [4, 8, 66, 65, 64, 5, 3, 2] ((tS 4 bb x84.length bc) :: (K93m14 x_v22 w_ e f ag x_v21 ah)) gp dl.plOk (by kernel_rfl) fun km gq => ?_
      refine wpFrom_end (by decide) (wp_region_from (R_runk 0 9 [93, 87, 85, 4, 66, 65, 64, 3, 2] ((tI 93 (IntKind.i64.wrap (((w_.route.buses.length : Nat) : Int) + x_v22))) :: (tS 87 o t_.legs.length p) :: (tS 85 ag x_v21.length ah) :: (K93m13 bb x84 bc x_v22 w_ e f)) gq dl.plOk (by kernel_rfl) fun kn gr => ?_))
      obtain ⟨x94, ex94, az⟩ := bnd az
      obtain ⟨ht, h2, iu⟩ := idx_some ex94
      obtain ⟨b6, ca, j3, ez, ii, fb⟩ := bi.get (by decide) iu
      obtain ⟨bf, bg, rfl, h5⟩ := ii
      have ek : Mem ⟨w, h, noX⟩ ay (K93e6 g k ax a0 x_v22 a5 bh bj b6 ca w_) [⟨(K93c8 ae w_ af b d e f q x s y u z), some 115⟩, ⟨(K93c3 aa t_ ac ab ad o p), some 76⟩, ⟨(K93c1 x69), none⟩, ⟨(K93c1 x69), some 110⟩, ⟨[.bool x75], none⟩, ⟨[.slice bf x94.length bg], none⟩] [⟨bb, x84.length, bc, 153, 3, (bd ++ ([.int .i64 x69.stop, .int .i64 x69.tm, .int .i64 (-1)] : List Value)), 0⟩, ⟨ag, x_v21.length, ah, 158, 2, be, 0⟩, ⟨cb, 1, 1, 153, 3, ([.int .i64 x69.stop, .int .i64 x69.tm, .int .i64 (-1)] : List Value), 0⟩] ep := dl.addPlc (cs := [.slice bf x94.length bg]) (fun j c hj => fb j _ (map_get hj)) rfl (by kernel_rfl) (by kernel_rfl)
      refine R_index 9 (IntKind.i64.wrap (((w_.route.buses.length : Nat) : Int) + x_v22)) rfl rfl (rfl) rfl (by decide) gr (by rfl) (by rfl) (by rfl) ez (by rfl) ht h2 (by kernel_rfl) fun jg (gs : Kn 102 (K93e6 g k ax a0 x_v22 a5 bh bj b6 ca w_) ((tP 94 5 0) :: (tI 93 (IntKind.i64.wrap (((w_.route.buses.length : Nat) : Int) + x_v22))) :: (tS 87 o t_.legs.length p) :: (tS 85 ag x_v21.length ah) :: (K93m13 bb x84 bc x_v22 w_ e f)) jg) => ?_
      refine R_runk 10 2 [96, 85, 4, 66, 65, 64, 3, 2] ((tA 96 [.slice bf x94.length bg, .int .i64 0]) :: (tS 85 ag x_v21.length ah) :: (K93m13 bb x84 bc x_v22 w_ e f)) gs ek.plOk (by kernel_rfl) fun ko gu => ?_
      refine wpFrom_loud _ rfl (rfl) fun K hK => ?_
      refine wp_buildSlice 158 2 [.slice bf x94.length bg, .int .i64 0] gu ek rfl rfl (by decide) (by kernel_rfl) (by rfl) (by rfl) rfl (by decide) fun cv jh js (gv : Kn 102 (K93e6 g k ax a0 x_v22 a5 bh bj b6 ca w_) ((tS 97 cv 1 1) :: (tA 96 [.slice bf x94.length bg, .int .i64 0]) :: (tS 85 ag x_v21.length ah) :: (K93m13 bb x84 bc x_v22 w_ e f)) jh) (el : Mem ⟨w, h, noX⟩ ay (K93e6 g k ax a0 x_v22 a5 bh bj b6 ca w_) [⟨(K93c8 ae w_ af b d e f q x s y u z), some 115⟩, ⟨(K93c3 aa t_ ac ab ad o p), some 76⟩, ⟨(K93c1 x69), none⟩, ⟨(K93c1 x69), some 110⟩, ⟨[.bool x75], none⟩, ⟨[.slice bf x94.length bg], none⟩] [⟨bb, x84.length, bc, 153, 3, (bd ++ ([.int .i64 x69.stop, .int .i64 x69.tm, .int .i64 (-1)] : List Value)), 0⟩, ⟨ag, x_v21.length, ah, 158, 2, be, 0⟩, ⟨cb, 1, 1, 153, 3, ([.int .i64 x69.stop, .int .i64 x69.tm, .int .i64 (-1)] : List Value), 0⟩, ⟨cv, 1, 1, 158, 2, ([.slice bf x94.length bg, .int .i64 0] : List Value), 0⟩] js) => ?_
      have dc : Cells ay ([(Times.mk x94 0)] : List Times) ([.slice bf x94.length bg, .int .i64 0] : List Value) := ⟨_, _, rfl, ((rep_pair (rep_slice h5) rep_int) : rep ay ((Times.mk x94 0) : Times) _), rfl⟩
      refine hK _ _ ?_
      obtain ⟨x98, ex98, az⟩ := bnd az
      obtain ⟨dv, hd⟩ := app_some ex98
      refine wpFrom_loud _ rfl (rfl) fun K hK => ?_
      refine wp_append 1 32 1 _ (x98.length) _ ([.slice bf x94.length bg, .int .i64 0] : List Value) gv el rfl rfl (by decide) rfl (by rfl) (by kernel_rfl) (by rfl) (by rfl) (Cells.len dc) (el.rowCell (i := 3) rfl) dc.one (by rw [dv]; simp) (by rw [dv]; exact hd) (by decide) fun ch cl d8 ji jt fl (gx : Kn 102 [(g, 0), (k, 0), (ax, a0 + (x_v22 : Int).toNat * 2), (a5, 0), (bh, bj + (x_v22 : Int).toNat * 1), (b6, ca + (IntKind.i64.wrap (((w_.route.buses.length : Nat) : Int) + x_v22) : Int).toNat * 1)] [(98, .one (.c (.slice ch x98.length cl))), (97, .one (.c (.slice cv 1 1))), (96, .one (.agg [.slice bf x94.length bg, .int .i64 0])), (85, .one (.c (.slice ag x_v21.length ah))), (4, .one (.c (.slice bb x84.length bc))), (66, .one (.c (.int .i64 x_v22))), (65, .one (.c (.int .i64 ((w_.route.spares.length : Nat) : Int)))), (64, .one (.c (.slice e w_.route.spares.length f))), (3, .one (.c (.ptr 1 0))), (2, .one (.c (.ptr 0 0)))] ji) (dm : Mem ⟨w, h, noX⟩ ay [(g, 0), (k, 0), (ax, a0 + (x_v22 : Int).toNat * 2), (a5, 0), (bh, bj + (x_v22 : Int).toNat * 1), (b6, ca + (IntKind.i64.wrap (((w_.route.buses.length : Nat) : Int) + x_v22) : Int).toNat * 1)] [⟨[.slice ae w_.route.legs.length af, .int .i64 w_.route.turn.lo, .int .i64 w_.route.turn.hi, .slice b w_.route.buses.length d, .slice e w_.route.spares.length f, .int .i64 w_.route.unit, .int .i64 w_.route.gap, .int .i64 w_.route.fr, .int .i64 w_.route.to_, .slice q w_.acts.holds.length x, .slice s w_.acts.turns.length y, .slice u w_.acts.spares.length z], some 115⟩, ⟨[.slice aa t_.tm.length ac, .slice ab t_.turns.length ad, .slice o t_.legs.length p], some 76⟩, ⟨[.int .i64 x69.stop, .int .i64 x69.tm], none⟩, ⟨[.int .i64 x69.stop, .int .i64 x69.tm], some 110⟩, ⟨[.bool x75], none⟩, ⟨[.slice bf x94.length bg], none⟩] [⟨bb, x84.length, bc, 153, 3, (bd ++ ([.int .i64 x69.stop, .int .i64 x69.tm, .int .i64 (-1)] : List Value)), 0⟩, ⟨ch, x98.length, cl, 158, 2, (be ++ ([.slice bf x94.length bg, .int .i64 0] : List Value)), d8⟩, ⟨cb, 1, 1, 153, 3, ([.int .i64 x69.stop, .int .i64 x69.tm, .int .i64 (-1)] : List Value), 0⟩, ⟨cv, 1, 1, 158, 2, ([.slice bf x94.length bg, .int .i64 0] : List Value), 0⟩] jt) => ?_
      have fc : Cells ay x98 (be ++ ([.slice bf x94.length bg, .int .i64 0] : List Value)) := by rw [dv]; exact Cells.append da dc
      obtain rfl : d8 = 0 := Nat.le_zero.1 fl
      refine hK _ _ ?_
      refine R_runk 14 1 [5, 4, 66, 65, 64, 3, 2] ((tS 5 ch x98.length cl) :: (K93m13 bb x84 bc x_v22 w_ e f)) gx dm.plOk (by kernel_rfl) fun kp gy => ?_
      refine wpFrom_end (by decide) (wp_region_from (R_runk 0 2 [66, 5, 4, 65, 64, 3, 2] [(tI 66 (IntKind.i64.wrap (x_v22 + 1))), (tS 5 ch x98.length cl), (tS 4 bb x84.length bc), (tI 65 ((w_.route.spares.length : Nat) : Int)), (tS 64 e w_.route.spares.length f), (tP 3 1 0), (tP 2 0 0)] gy dm.plOk (by kernel_rfl) fun kq gz => ?_))
      refine wpFrom_end (by decide) ?_
      exact Exists.intro c0 ⟨Nat.lt_succ_self _, Exists.intro x84 ⟨x98, (IntKind.i64.wrap (x_v22 + 1)), bb, bc, (bd ++ ([.int .i64 x69.stop, .int .i64 x69.tm, .int .i64 (-1)] : List Value)), ch, cl, (be ++ ([.slice bf x94.length bg, .int .i64 0] : List Value)), _, _, rfl, ((gz.keep [66, 65, 64, 5, 4, 3, 2] (by rfl)).cut 2 (by kernel_rfl)), ((dm.cutRw 2).cutPl 2 (by kernel_rfl)), br, fa, fc, az⟩⟩
     ·
      rw [c5, cond_false] at az
      refine wp_skip (wp_region_from (R_runk 0 2 [66, 65, 64, 5, 4, 3, 2] ((tI 66 (IntKind.i64.wrap (x_v22 + 1))) :: (K93m9 w_ e f ag x_v21 ah an x_v20 ao)) de ct.plOk (by kernel_rfl) fun kr g0 => ?_))
      refine wpFrom_end (by decide) ?_
      exact Exists.intro c0 ⟨Nat.lt_succ_self _, Exists.intro x_v20 ⟨x_v21, (IntKind.i64.wrap (x_v22 + 1)), an, ao, bd, ag, ah, be, _, _, rfl, ((g0.keep [66, 65, 64, 5, 4, 3, 2] (by rfl)).cut 2 (by kernel_rfl)), (ct.cutPl 2 (by kernel_rfl)), br, c9, da, az⟩⟩
    ·
     rw [c4, cond_false] at az
     refine wp_exit ?_
     obtain rfl := Option.some.inj az
     exact Exists.intro an ⟨ao, bd, ag, ah, be, _, _, rfl, (dd.keep [5, 4] (by rfl)), cx, br, c9, da⟩
  ·
   rintro _ er ⟨b3, b7, ce, b4, b8, cf, dx, co, rfl, g1, dp, b1, cp, cq⟩
   replace bt := bt.mono b1
   replace bp := bp.mono b1
   replace bq := bq.mono b1
   replace bk := bk.mono b1
   replace bl := bl.mono b1
   replace bm := bm.mono b1
   replace bn := bn.mono b1
   replace bo := bo.mono b1
   replace bi := bi.mono b1
   refine wp_seq (wp_region_from (R_runk 0 4 [5, 4] [(tS 5 b4 ba.2.length b8), (tS 4 b3 ba.1.length b7)] g1 dp.plOk (by kernel_rfl) fun ks g2 => ?_))
   refine wpFrom_end (by decide) (wp_ret ?_)
   obtain ⟨d9, bu, h7, cy⟩ := dp.settle (i := 0) rfl
   replace bt := bt.mono bu
   replace bp := bp.mono bu
   replace bq := bq.mono bu
   replace bk := bk.mono bu
   replace bl := bl.mono bu
   replace bm := bm.mono bu
   replace bn := bn.mono bu
   replace bo := bo.mono bu
   replace bi := bi.mono bu
   replace cp := cp.mono bu
   replace cq := cq.mono bu
   replace cy : Mem ⟨w, h, noX⟩ d9 [(g, 0), (k, 0)] [⟨(K93c8 ae w_ af b d e f q x s y u z), some 115⟩, ⟨(K93c3 aa t_ ac ab ad o p), some 76⟩] [⟨b3, ba.1.length, b7, 153, 3, ce, (ce : List Value).length⟩, ⟨b4, ba.2.length, b8, 158, 2, cf, 0⟩] er := cy
   have dr : RepS d9 b3 b7 ba.1 := ⟨_, cp, h7, dp.rowCap (i := 0) rfl⟩
   obtain ⟨ea, bs, h8, dq⟩ := cy.settle (i := 1) rfl
   replace bt := bt.mono bs
   replace bp := bp.mono bs
   replace bq := bq.mono bs
   replace bk := bk.mono bs
   replace bl := bl.mono bs
   replace bm := bm.mono bs
   replace bn := bn.mono bs
   replace bo := bo.mono bs
   replace bi := bi.mono bs
   replace dr := dr.mono bs
   replace cp := cp.mono bs
   replace cq := cq.mono bs
   replace dq : Mem ⟨w, h, noX⟩ ea [(g, 0), (k, 0)] [⟨(K93c8 ae w_ af b d e f q x s y u z), some 115⟩, ⟨(K93c3 aa t_ ac ab ad o p), some 76⟩] [⟨b3, ba.1.length, b7, 153, 3, ce, (ce : List Value).length⟩, ⟨b4, ba.2.length, b8, 158, 2, cf, (cf : List Value).length⟩] er := dq
   have h6 : RepS ea b4 b8 ba.2 := ⟨_, cq, h8, cy.rowCap (i := 1) rfl⟩
   obtain rfl := Option.some.inj H
   exact ret_ok (.tup [.c (.slice b3 ba.1.length b7), .c (.slice b4 ba.2.length b8)]) g2 dq (by kernel_rfl) ⟨_, _, rfl, ⟨_, _, rfl, dr⟩, ⟨_, _, rfl, h6⟩⟩
end Go.Proofs.Ytokchpjijlebiaa
