/- Each call computes its plain function. -/
import Derived.Test.YtokchpjijlebiaaProg
import Derived.Test.YtokchpjijlebiaaSpP0
set_option linter.all false
namespace Go.Proofs.Ytokchpjijlebiaa
open Go Go.RowKit
open Rep (rep)
open KRep (kv)
open VRep (rv)
set_option maxRecDepth 100000 in
set_option maxHeartbeats 4000000 in
theorem control_within_ok (n : Nat) {h : Heap} {w : World} (hh : Has h w) (n_ : Int) (low : Int) (high : Int) {r : Bool} (H : control_within n n_ low high = some r) :
  Calls Try.prog 84 #[.int .i64 n_, .int .i64 low, .int .i64 high] w (Ret (fun h v => v = .bool r) h w) := by
 refine enter 15 [.c (.int .i64 n_), .c (.int .i64 low), .c (.int .i64 high)] Try.func84 rfl rfl rfl rfl fun t hk => ?_
 have hm := Mem.begin h w hh
 unfold control_within at H
 refine wp_seq (wp_region_from (Rk 0 1 [(tI 0 n_), (tI 1 low), (tI 2 high)] hk hm fun k f => ?_))
 refine wf (wp_seq (wp_region_from (Rk 0 4 [(tB 10 (decide (low ≤ n_))), (tI 0 n_), (tI 2 high)] f hm fun d b => ?_)))
 rcases Bool.eq_false_or_eq_true (decide (low ≤ n_)) with a | a
 ·
  rw [a, cond_true] at H
  have g : Kn 15 [] [(tB 10 true), (tI 0 n_), (tI 2 high)] d := (b.setB 10 true (by rfl) a).kp
  refine Rk 4 5 [(tB 6 (decide (n_ ≤ high)))] g hm fun m i => ?_
  refine wf (wp_ret ?_)
  obtain rfl := Option.some.inj H
  exact rt (.one (.c (.bool (decide (n_ ≤ high))))) i hm rfl
 ·
  rw [a, cond_false] at H
  have j : Kn 15 [] [(tB 10 false), (tI 0 n_), (tI 2 high)] d := (b.setB 10 false (by rfl) a).kp
  refine Rk 4 5 [(tB 6 false)] j hm fun l e => ?_
  refine wf (wp_ret ?_)
  obtain rfl := Option.some.inj H
  exact rt (.one (.c (.bool false))) e hm rfl
set_option maxRecDepth 100000 in
set_option maxHeartbeats 4000000 in
theorem control_minute_ok (n : Nat) {h : Heap} {w : World} (hh : Has h w) (n_ : Int) {r : Bool} (H : control_minute n n_ = some r) :
  Calls Try.prog 78 #[.int .i64 n_] w (Ret (fun h v => v = .bool r) h w) := by
 refine enter 5 [.c (.int .i64 n_)] Try.func78 rfl rfl rfl rfl fun t hk => ?_
 have hm := Mem.begin h w hh
 unfold control_minute at H
 refine wp_seq (wp_region_from (Rk 0 1 [(tI 0 n_)] hk hm fun l f => ?_))
 refine wf (wp_seq (wp_region_from (Rk 0 1 [(tI 3 n_)] f hm fun o g => ?_)))
 obtain ⟨x4, ex4, H⟩ := bnd H
 refine wl fun K hK => ?_
 refine wc [.c (.int .i64 n_), .c (.int .i64 0), .c (.int .i64 2000)] g hm (control_within_ok n hm.has n_ 0 2000 ex4) fun p j q b k a => ?_
 obtain rfl := b
 refine ⟨.one (.c (.bool x4)), rfl, fun i (d : Kn 5 [] [(tB 4 x4), (tI 3 n_)] i) => hK _ _ ?_⟩
 refine Rk 2 1 [(tB 2 x4)] d a fun m e => ?_
 refine wf (wp_ret ?_)
 obtain rfl := Option.some.inj H
 exact rt (.one (.c (.bool x4))) e a rfl
abbrev K92c1 (a : Option Addr) (r_ : Route) (e : Nat) (b : Option Addr) (f : Nat) (d : Option Addr) (g : Nat) : List SC := [.slice a r_.legs.length e, .int .i64 r_.turn.lo, .int .i64 r_.turn.hi, .slice b r_.buses.length f, .slice d r_.spares.length g, .int .i64 r_.unit, .int .i64 r_.gap, .int .i64 r_.fr, .int .i64 r_.to_]
set_option maxRecDepth 100000 in
set_option maxHeartbeats 4000000 in
theorem control_Route_stops_ok (n : Nat) {h : Heap} {w : World} (hh : Has h w) (r_ : Route) {cs_r_ : List Value} (hx_r_ : rep h r_ cs_r_) {r : Int} (H : control_Route_stops n r_ = some r) :
  Calls Try.prog 92 #[.agg cs_r_.toArray] w (Ret (fun h v => v = .int .i64 r) h w) := by
 obtain ⟨_, _, rfl, ⟨a, e, rfl, q⟩, ⟨_, _, rfl, ⟨_, _, rfl, rfl, rfl⟩, ⟨_, _, rfl, ⟨b, f, rfl, s⟩, ⟨_, _, rfl, ⟨d, g, rfl, u⟩, ⟨_, _, rfl, rfl, ⟨_, _, rfl, rfl, ⟨_, _, rfl, rfl, rfl⟩⟩⟩⟩⟩⟩⟩ := hx_r_
 refine enter 7 [.agg (K92c1 a r_ e b f d g)] Try.func92 rfl rfl rfl rfl fun t hk => ?_
 have hm := Mem.begin h w hh
 unfold control_Route_stops at H
 refine wp_seq (wp_region_from (wl fun K hK => ?_))
 refine wb (.agg (K92c1 a r_ e b f d g)) hk hm fun j o p (k : Kn 7 [(j, 0)] [(tP 1 0 0), (tA 0 (K92c1 a r_ e b f d g))] o) (i : Mem ⟨w, h, noX⟩ h [(j, 0)] [⟨(K92c1 a r_ e b f d g), some 43⟩] [] p) => hK _ _ ?_
 refine Rk 1 1 [(tP 1 0 0)] k i fun x l => ?_
 refine wf (wp_seq (wp_region_from (Rk 0 5 [(tI 2 (IntKind.i64.wrap (((r_.legs.length : Nat) : Int) + 1)))] l i fun y m => ?_)))
 refine wf (wp_ret ?_)
 obtain rfl := Option.some.inj H
 exact rt (.one (.c (.int .i64 (IntKind.i64.wrap (((r_.legs.length : Nat) : Int) + 1))))) m i rfl
abbrev K79c1 (a : Option Addr) (r_ : Route) (e : Nat) (b : Option Addr) (f : Nat) (d : Option Addr) (g : Nat) : List SC := [.slice a r_.legs.length e, .int .i64 r_.turn.lo, .int .i64 r_.turn.hi, .slice b r_.buses.length f, .slice d r_.spares.length g, .int .i64 r_.unit, .int .i64 r_.gap, .int .i64 r_.fr, .int .i64 r_.to_]
set_option maxRecDepth 100000 in
set_option maxHeartbeats 4000000 in
theorem control_Route_places_ok (n : Nat) {h : Heap} {w : World} (hh : Has h w) (r_ : Route) {cs_r_ : List Value} (hx_r_ : rep h r_ cs_r_) {r : Int} (H : control_Route_places n r_ = some r) :
  Calls Try.prog 79 #[.agg cs_r_.toArray] w (Ret (fun h v => v = .int .i64 r) h w) := by
 obtain ⟨_, _, rfl, ⟨a, e, rfl, u⟩, ⟨_, _, rfl, ⟨_, _, rfl, rfl, rfl⟩, ⟨_, _, rfl, ⟨b, f, rfl, x⟩, ⟨_, _, rfl, ⟨d, g, rfl, y⟩, ⟨_, _, rfl, rfl, ⟨_, _, rfl, rfl, ⟨_, _, rfl, rfl, rfl⟩⟩⟩⟩⟩⟩⟩ := hx_r_
 refine enter 6 [.agg (K79c1 a r_ e b f d g)] Try.func79 rfl rfl rfl rfl fun t hk => ?_
 have hm := Mem.begin h w hh
 unfold control_Route_places at H
 refine wp_seq (wp_region_from (wl fun K hK => ?_))
 refine wb (.agg (K79c1 a r_ e b f d g)) hk hm fun j z ab (m : Kn 6 [(j, 0)] [(tP 1 0 0), (tA 0 (K79c1 a r_ e b f d g))] z) (i : Mem ⟨w, h, noX⟩ h [(j, 0)] [⟨(K79c1 a r_ e b f d g), some 43⟩] [] ab) => hK _ _ ?_
 refine Rk 1 1 [(tP 1 0 0)] m i fun ae o => ?_
 refine wf (wp_seq (wp_region_from (Rk 0 1 [(tA 3 (K79c1 a r_ e b f d g))] o i fun af p => ?_)))
 obtain ⟨x4, ex4, H⟩ := bnd H
 refine wl fun K hK => ?_
 refine wc [.agg (K79c1 a r_ e b f d g)] p i (control_Route_stops_ok n i.has r_ ((rep_pair (rep_slice u) (rep_pair (rep_pair rep_int rep_int) (rep_pair (rep_slice x) (rep_pair (rep_slice y) (rep_pair rep_int (rep_pair rep_int (rep_pair rep_int rep_int))))))) : rep h r_ _) ex4) fun ah ac ai l ad k => ?_
 obtain rfl := l
 refine ⟨.one (.c (.int .i64 x4)), rfl, fun aa (q : Kn 6 [(j, 0)] [(tI 4 x4), (tA 3 (K79c1 a r_ e b f d g))] aa) => hK _ _ ?_⟩
 refine Rk 2 2 [(tI 2 (IntKind.i64.wrap (Int.tdiv x4 2)))] q k fun ag s => ?_
 refine wf (wp_ret ?_)
 obtain rfl := Option.some.inj H
 exact rt (.one (.c (.int .i64 (IntKind.i64.wrap (Int.tdiv x4 2))))) s k rfl
abbrev K64c1 (a : Option Addr) (r_ : Route) (e : Nat) (b : Option Addr) (f : Nat) (d : Option Addr) (g : Nat) : List SC := [.slice a r_.legs.length e, .int .i64 r_.turn.lo, .int .i64 r_.turn.hi, .slice b r_.buses.length f, .slice d r_.spares.length g, .int .i64 r_.unit, .int .i64 r_.gap, .int .i64 r_.fr, .int .i64 r_.to_]
set_option maxRecDepth 100000 in
set_option maxHeartbeats 4000000 in
theorem control_Route_stop_ok (n : Nat) {h : Heap} {w : World} (hh : Has h w) (r_ : Route) {cs_r_ : List Value} (hx_r_ : rep h r_ cs_r_) (n_ : Int) {r : Bool} (H : control_Route_stop n r_ n_ = some r) :
  Calls Try.prog 64 #[.agg cs_r_.toArray, .int .i64 n_] w (Ret (fun h v => v = .bool r) h w) := by
 obtain ⟨_, _, rfl, ⟨a, e, rfl, aa⟩, ⟨_, _, rfl, ⟨_, _, rfl, rfl, rfl⟩, ⟨_, _, rfl, ⟨b, f, rfl, ab⟩, ⟨_, _, rfl, ⟨d, g, rfl, ac⟩, ⟨_, _, rfl, rfl, ⟨_, _, rfl, rfl, ⟨_, _, rfl, rfl, rfl⟩⟩⟩⟩⟩⟩⟩ := hx_r_
 refine enter 10 [.agg (K64c1 a r_ e b f d g), .c (.int .i64 n_)] Try.func64 rfl rfl rfl rfl fun t hk => ?_
 have hm := Mem.begin h w hh
 unfold control_Route_stop at H
 refine wp_seq (wp_region_from (wl fun K hK => ?_))
 refine wb (.agg (K64c1 a r_ e b f d g)) hk hm fun i ad ag (p : Kn 10 [(i, 0)] [(tP 2 0 0), (tA 0 (K64c1 a r_ e b f d g)), (tI 1 n_)] ad) (j : Mem ⟨w, h, noX⟩ h [(i, 0)] [⟨(K64c1 a r_ e b f d g), some 43⟩] [] ag) => hK _ _ ?_
 refine Rk 1 1 [(tP 2 0 0), (tI 1 n_)] p j fun al q => ?_
 refine wf (wp_seq (wp_region_from (Rk 0 2 [(tA 6 (K64c1 a r_ e b f d g)), (tI 5 n_)] q j fun am s => ?_)))
 obtain ⟨x7, ex7, H⟩ := bnd H
 refine wl fun K hK => ?_
 refine wc [.agg (K64c1 a r_ e b f d g)] s j (control_Route_stops_ok n j.has r_ ((rep_pair (rep_slice aa) (rep_pair (rep_pair rep_int rep_int) (rep_pair (rep_slice ab) (rep_pair (rep_slice ac) (rep_pair rep_int (rep_pair rep_int (rep_pair rep_int rep_int))))))) : rep h r_ _) ex7) fun ap ah ar m aj k => ?_
 obtain rfl := m
 refine ⟨.one (.c (.int .i64 x7)), rfl, fun ae (u : Kn 10 [(i, 0)] [(tI 7 x7), (tA 6 (K64c1 a r_ e b f d g)), (tI 5 n_)] ae) => hK _ _ ?_⟩
 refine Rk 3 1 [(tI 8 (IntKind.i64.wrap (x7 - 1))), (tI 5 n_)] u k fun an x => ?_
 obtain ⟨x9, ex9, H⟩ := bnd H
 refine wl fun K hK => ?_
 refine wc [.c (.int .i64 n_), .c (.int .i64 0), .c (.int .i64 (IntKind.i64.wrap (x7 - 1)))] x k (control_within_ok n k.has n_ 0 (IntKind.i64.wrap (x7 - 1)) ex9) fun aq ai au o ak l => ?_
 obtain rfl := o
 refine ⟨.one (.c (.bool x9)), rfl, fun af (y : Kn 10 [(i, 0)] [(tB 9 x9), (tI 8 (IntKind.i64.wrap (x7 - 1))), (tI 5 n_)] af) => hK _ _ ?_⟩
 refine Rk 5 1 [(tB 4 x9)] y l fun ao z => ?_
 refine wf (wp_ret ?_)
 obtain rfl := Option.some.inj H
 exact rt (.one (.c (.bool x9))) z l rfl
set_option maxRecDepth 100000 in
set_option maxHeartbeats 4000000 in
theorem control_Range_upto_ok (n : Nat) {h : Heap} {w : World} (hh : Has h w) (r_ : Rg) {cs_r_ : List Value} (hx_r_ : rep h r_ cs_r_) (most : Int) {r : Bool} (H : control_Range_upto n r_ most = some r) :
  Calls Try.prog 76 #[.agg cs_r_.toArray, .int .i64 most] w (Ret (fun h v => v = .bool r) h w) := by
 obtain ⟨_, _, rfl, rfl, rfl⟩ := hx_r_
 refine enter 21 [.agg [.int .i64 r_.lo, .int .i64 r_.hi], .c (.int .i64 most)] Try.func76 rfl rfl rfl rfl fun t hk => ?_
 have hm := Mem.begin h w hh
 unfold control_Range_upto at H
 refine wp_seq (wp_region_from (wl fun K hK => ?_))
 refine wb (.agg [.int .i64 r_.lo, .int .i64 r_.hi]) hk hm fun b y z (u : Kn 21 [(b, 0)] [(tP 2 0 0), (tA 0 [.int .i64 r_.lo, .int .i64 r_.hi]), (tI 1 most)] y) (a : Mem ⟨w, h, noX⟩ h [(b, 0)] [⟨[.int .i64 r_.lo, .int .i64 r_.hi], some 39⟩] [] z) => hK _ _ ?_
 refine Rk 1 1 [(tP 2 0 0), (tI 1 most)] u a fun ad x => ?_
 refine wf (wp_seq (wp_region_from (Rk 0 4 [(tB 8 (decide (0 ≤ r_.lo))), (tP 2 0 0), (tI 1 most)] x a fun j g => ?_)))
 rcases Bool.eq_false_or_eq_true (decide (0 ≤ r_.lo)) with d | d
 ·
  rw [d, cond_true] at H
  have k : Kn 21 [(b, 0)] [(tB 8 true), (tP 2 0 0), (tI 1 most)] j := (g.setB 8 true (by rfl) d).kp
  refine Rk 4 7 [(tB 15 (decide (r_.lo ≤ r_.hi))), (tP 2 0 0), (tI 1 most)] k a fun i f => ?_
  rcases Bool.eq_false_or_eq_true (decide (r_.lo ≤ r_.hi)) with e | e
  ·
   rw [e, cond_true] at H
   have l : Kn 21 [(b, 0)] [(tB 15 true), (tP 2 0 0), (tI 1 most)] i := (f.setB 15 true (by rfl) e).kp
   refine Rk 11 6 [(tB 4 (decide (r_.hi ≤ most)))] l a fun aa m => ?_
   refine wf (wp_ret ?_)
   obtain rfl := Option.some.inj H
   exact rt (.one (.c (.bool (decide (r_.hi ≤ most))))) m a rfl
  ·
   rw [e, cond_false] at H
   have o : Kn 21 [(b, 0)] [(tB 15 false), (tP 2 0 0), (tI 1 most)] i := (f.setB 15 false (by rfl) e).kp
   refine Rk 11 6 [(tB 4 false)] o a fun ab p => ?_
   refine wf (wp_ret ?_)
   obtain rfl := Option.some.inj H
   exact rt (.one (.c (.bool false))) p a rfl
 ·
  rw [d, cond_false] at H
  have q : Kn 21 [(b, 0)] [(tB 8 false), (tP 2 0 0), (tI 1 most)] j := (g.setB 8 false (by rfl) d).kp
  refine Rk 4 13 [(tB 4 false)] q a fun ac s => ?_
  refine wf (wp_ret ?_)
  obtain rfl := Option.some.inj H
  exact rt (.one (.c (.bool false))) s a rfl
set_option maxRecDepth 100000 in
set_option maxHeartbeats 4000000 in
theorem control_Range_takes_ok (n : Nat) {h : Heap} {w : World} (hh : Has h w) (r_ : Rg) {cs_r_ : List Value} (hx_r_ : rep h r_ cs_r_) {r : Bool} (H : control_Range_takes n r_ = some r) :
  Calls Try.prog 81 #[.agg cs_r_.toArray] w (Ret (fun h v => v = .bool r) h w) := by
 obtain ⟨_, _, rfl, rfl, rfl⟩ := hx_r_
 refine enter 5 [.agg [.int .i64 r_.lo, .int .i64 r_.hi]] Try.func81 rfl rfl rfl rfl fun t hk => ?_
 have hm := Mem.begin h w hh
 unfold control_Range_takes at H
 refine wp_seq (wp_region_from (wl fun K hK => ?_))
 refine wb (.agg [.int .i64 r_.lo, .int .i64 r_.hi]) hk hm fun b m o (i : Kn 5 [(b, 0)] [(tP 1 0 0), (tA 0 [.int .i64 r_.lo, .int .i64 r_.hi])] m) (a : Mem ⟨w, h, noX⟩ h [(b, 0)] [⟨[.int .i64 r_.lo, .int .i64 r_.hi], some 39⟩] [] o) => hK _ _ ?_
 refine Rk 1 1 [(tP 1 0 0)] i a fun u j => ?_
 refine wf (wp_seq (wp_region_from (Rk 0 1 [(tA 3 [.int .i64 r_.lo, .int .i64 r_.hi])] j a fun x k => ?_)))
 obtain ⟨x4, ex4, H⟩ := bnd H
 refine wl fun K hK => ?_
 refine wc [.agg [.int .i64 r_.lo, .int .i64 r_.hi], .c (.int .i64 300)] k a (control_Range_upto_ok n a.has r_ ((rep_pair rep_int rep_int) : rep h r_ _) 300 ex4) fun y p z e q d => ?_
 obtain rfl := e
 refine ⟨.one (.c (.bool x4)), rfl, fun l (f : Kn 5 [(b, 0)] [(tB 4 x4), (tA 3 [.int .i64 r_.lo, .int .i64 r_.hi])] l) => hK _ _ ?_⟩
 refine Rk 2 1 [(tB 2 x4)] f d fun s g => ?_
 refine wf (wp_ret ?_)
 obtain rfl := Option.some.inj H
 exact rt (.one (.c (.bool x4))) g d rfl
set_option maxRecDepth 100000 in
set_option maxHeartbeats 4000000 in
theorem control_Range_low_ok (n : Nat) {h : Heap} {w : World} (hh : Has h w) (r_ : Rg) {cs_r_ : List Value} (hx_r_ : rep h r_ cs_r_) {r : Int} (H : control_Range_low n r_ = some r) :
  Calls Try.prog 68 #[.agg cs_r_.toArray] w (Ret (fun h v => v = .int .i64 r) h w) := by
 obtain ⟨_, _, rfl, rfl, rfl⟩ := hx_r_
 refine enter 5 [.agg [.int .i64 r_.lo, .int .i64 r_.hi]] Try.func68 rfl rfl rfl rfl fun t hk => ?_
 have hm := Mem.begin h w hh
 unfold control_Range_low at H
 refine wp_seq (wp_region_from (wl fun K hK => ?_))
 refine wb (.agg [.int .i64 r_.lo, .int .i64 r_.hi]) hk hm fun b g i (d : Kn 5 [(b, 0)] [(tP 1 0 0), (tA 0 [.int .i64 r_.lo, .int .i64 r_.hi])] g) (a : Mem ⟨w, h, noX⟩ h [(b, 0)] [⟨[.int .i64 r_.lo, .int .i64 r_.hi], some 39⟩] [] i) => hK _ _ ?_
 refine Rk 1 1 [(tP 1 0 0)] d a fun j e => ?_
 refine wf (wp_seq (wp_region_from (Rk 0 3 [(tI 2 r_.lo)] e a fun k f => ?_)))
 refine wf (wp_ret ?_)
 obtain rfl := Option.some.inj H
 exact rt (.one (.c (.int .i64 r_.lo))) f a rfl
set_option maxRecDepth 100000 in
set_option maxHeartbeats 4000000 in
theorem control_Range_high_ok (n : Nat) {h : Heap} {w : World} (hh : Has h w) (r_ : Rg) {cs_r_ : List Value} (hx_r_ : rep h r_ cs_r_) {r : Int} (H : control_Range_high n r_ = some r) :
  Calls Try.prog 69 #[.agg cs_r_.toArray] w (Ret (fun h v => v = .int .i64 r) h w) := by
 obtain ⟨_, _, rfl, rfl, rfl⟩ := hx_r_
 refine enter 5 [.agg [.int .i64 r_.lo, .int .i64 r_.hi]] Try.func69 rfl rfl rfl rfl fun t hk => ?_
 have hm := Mem.begin h w hh
 unfold control_Range_high at H
 refine wp_seq (wp_region_from (wl fun K hK => ?_))
 refine wb (.agg [.int .i64 r_.lo, .int .i64 r_.hi]) hk hm fun b g i (d : Kn 5 [(b, 0)] [(tP 1 0 0), (tA 0 [.int .i64 r_.lo, .int .i64 r_.hi])] g) (a : Mem ⟨w, h, noX⟩ h [(b, 0)] [⟨[.int .i64 r_.lo, .int .i64 r_.hi], some 39⟩] [] i) => hK _ _ ?_
 refine Rk 1 1 [(tP 1 0 0)] d a fun j e => ?_
 refine wf (wp_seq (wp_region_from (Rk 0 3 [(tI 2 r_.hi)] e a fun k f => ?_)))
 refine wf (wp_ret ?_)
 obtain rfl := Option.some.inj H
 exact rt (.one (.c (.int .i64 r_.hi))) f a rfl
abbrev K95c1 (a : Option Addr) (r_ : Route) (e : Nat) (b : Option Addr) (f : Nat) (d : Option Addr) (g : Nat) : List SC := [.slice a r_.legs.length e, .int .i64 r_.turn.lo, .int .i64 r_.turn.hi, .slice b r_.buses.length f, .slice d r_.spares.length g, .int .i64 r_.unit, .int .i64 r_.gap, .int .i64 r_.fr, .int .i64 r_.to_]
set_option maxRecDepth 100000 in
set_option maxHeartbeats 4000000 in
theorem control_Route_looked_ok (n : Nat) {h : Heap} {w : World} (hh : Has h w) (r_ : Route) {cs_r_ : List Value} (hx_r_ : rep h r_ cs_r_) (n_ : Int) {r : Bool} (H : control_Route_looked n r_ n_ = some r) :
  Calls Try.prog 95 #[.agg cs_r_.toArray, .int .i64 n_] w (Ret (fun h v => v = .bool r) h w) := by
 obtain ⟨_, _, rfl, ⟨a, e, rfl, ab⟩, ⟨_, _, rfl, ⟨_, _, rfl, rfl, rfl⟩, ⟨_, _, rfl, ⟨b, f, rfl, ac⟩, ⟨_, _, rfl, ⟨d, g, rfl, ad⟩, ⟨_, _, rfl, rfl, ⟨_, _, rfl, rfl, ⟨_, _, rfl, rfl, rfl⟩⟩⟩⟩⟩⟩⟩ := hx_r_
 refine enter 11 [.agg (K95c1 a r_ e b f d g), .c (.int .i64 n_)] Try.func95 rfl rfl rfl rfl fun t hk => ?_
 have hm := Mem.begin h w hh
 unfold control_Route_looked at H
 refine wp_seq (wp_region_from (wl fun K hK => ?_))
 refine wb (.agg (K95c1 a r_ e b f d g)) hk hm fun j u y (m : Kn 11 [(j, 0)] [(tP 2 0 0), (tA 0 (K95c1 a r_ e b f d g)), (tI 1 n_)] u) (i : Mem ⟨w, h, noX⟩ h [(j, 0)] [⟨(K95c1 a r_ e b f d g), some 43⟩] [] y) => hK _ _ ?_
 refine Rk 1 1 [(tP 2 0 0), (tI 1 n_)] m i fun ae o => ?_
 refine wf (wp_seq (wp_region_from (Rk 0 5 [(tI 9 r_.to_), (tI 7 r_.fr), (tI 5 n_)] o i fun af p => ?_)))
 obtain ⟨x10, ex10, H⟩ := bnd H
 refine wl fun K hK => ?_
 refine wc [.c (.int .i64 n_), .c (.int .i64 r_.fr), .c (.int .i64 r_.to_)] p i (control_within_ok n i.has n_ r_.fr r_.to_ ex10) fun ah z ai l aa k => ?_
 obtain rfl := l
 refine ⟨.one (.c (.bool x10)), rfl, fun x (q : Kn 11 [(j, 0)] [(tB 10 x10), (tI 9 r_.to_), (tI 7 r_.fr), (tI 5 n_)] x) => hK _ _ ?_⟩
 refine Rk 6 1 [(tB 4 x10)] q k fun ag s => ?_
 refine wf (wp_ret ?_)
 obtain rfl := Option.some.inj H
 exact rt (.one (.c (.bool x10))) s k rfl
abbrev K86c1 (b : Bus) : List SC := [.int .i64 b.stop, .int .i64 b.tm.lo, .int .i64 b.tm.hi]
abbrev K86c2 (a : Option Addr) (r_ : Route) (f : Nat) (d : Option Addr) (g : Nat) (e : Option Addr) (i : Nat) : List SC := [.slice a r_.legs.length f, .int .i64 r_.turn.lo, .int .i64 r_.turn.hi, .slice d r_.buses.length g, .slice e r_.spares.length i, .int .i64 r_.unit, .int .i64 r_.gap, .int .i64 r_.fr, .int .i64 r_.to_]
set_option maxRecDepth 100000 in
set_option maxHeartbeats 4000000 in
theorem control_Route_turns_ok (n : Nat) {h : Heap} {w : World} (hh : Has h w) (r_ : Route) {cs_r_ : List Value} (hx_r_ : rep h r_ cs_r_) (b : Bus) {cs_b : List Value} (hx_b : rep h b cs_b) (at_ : Int) {r : Bool} (H : control_Route_turns n r_ b at_ = some r) :
  Calls Try.prog 86 #[.agg cs_r_.toArray, .agg cs_b.toArray, .int .i64 at_] w (Ret (fun h v => v = .bool r) h w) := by
 obtain ⟨_, _, rfl, ⟨a, f, rfl, ak⟩, ⟨_, _, rfl, ⟨_, _, rfl, rfl, rfl⟩, ⟨_, _, rfl, ⟨d, g, rfl, al⟩, ⟨_, _, rfl, ⟨e, i, rfl, am⟩, ⟨_, _, rfl, rfl, ⟨_, _, rfl, rfl, ⟨_, _, rfl, rfl, rfl⟩⟩⟩⟩⟩⟩⟩ := hx_r_
 obtain ⟨_, _, rfl, rfl, ⟨_, _, rfl, rfl, rfl⟩⟩ := hx_b
 refine enter 18 [.agg (K86c2 a r_ f d g e i), .agg (K86c1 b), .c (.int .i64 at_)] Try.func86 rfl rfl rfl rfl fun t hk => ?_
 have hm := Mem.begin h w hh
 unfold control_Route_turns at H
 refine wp_seq (wp_region_from (wl fun K hK => ?_))
 refine wb (.agg (K86c2 a r_ f d g e i)) hk hm fun j an ar (aa : Kn 18 [(j, 0)] [(tP 3 0 0), (tA 0 (K86c2 a r_ f d g e i)), (tA 1 (K86c1 b)), (tI 2 at_)] an) (aj : Mem ⟨w, h, noX⟩ h [(j, 0)] [⟨(K86c2 a r_ f d g e i), some 43⟩] [] ar) => hK _ _ ?_
 refine wl fun K hK => ?_
 refine wb (.agg (K86c1 b)) aa aj fun l ao au (ab : Kn 18 [(j, 0), (l, 0)] [(tP 4 1 0), (tP 3 0 0), (tA 0 (K86c2 a r_ f d g e i)), (tA 1 (K86c1 b)), (tI 2 at_)] ao) (k : Mem ⟨w, h, noX⟩ h [(j, 0), (l, 0)] [⟨(K86c2 a r_ f d g e i), some 43⟩, ⟨(K86c1 b), some 96⟩] [] au) => hK _ _ ?_
 refine Rk 2 1 [(tP 4 1 0), (tP 3 0 0), (tI 2 at_)] ab k fun az ac => ?_
 refine wf (wp_seq (wp_region_G (by kernel_rfl) ?_))
 replace k := k.drew
 refine wpG_of_D [] [(j, 0), (l, 0)] [⟨(K86c2 a r_ f d g e i), some 43⟩, ⟨(K86c1 b), some 96⟩] ?_
 refine Dr [0, 1, 2] [2, 1, 0] [(tB 9 (at_ == (-1))), (tP 4 1 0), (tP 3 0 0), (tI 2 at_)] ac k fun x q => ?_
 rcases Bool.eq_false_or_eq_true ((at_ == (-1))) with m | m
 ·
  rw [m, cond_true] at H
  have ad : Kn 18 [(j, 0), (l, 0)] [(tB 9 true), (tP 4 1 0), (tP 3 0 0), (tI 2 at_)] x := (q.setB 9 true (by rfl) m).kp
  refine Dr [3, 4, 5, 6, 7, 8, 9, 10, 11] (dn 11) [(tB 6 true)] ad k fun a0 ae => ?_
  refine wpD_end (by kernel_rfl) (wp_ret ?_)
  obtain rfl := Option.some.inj H
  exact rt (.one (.c (.bool true))) ae k rfl
 ·
  rw [m, cond_false] at H
  have af : Kn 18 [(j, 0), (l, 0)] [(tB 9 false), (tP 4 1 0), (tP 3 0 0), (tI 2 at_)] x := (q.setB 9 false (by rfl) m).kp
  refine Dr [3, 4, 5, 6] (dn 6) [(tA 13 (K86c2 a r_ f d g e i)), (tI 12 b.stop), (tI 10 at_), (tB 9 false)] af k fun a1 s => ?_
  obtain ⟨x14, ex14, H⟩ := bnd H
  refine D_loud 7 rfl (by kernel_rfl) (by decide) (wantedS_sound s (by kernel_rfl)) fun K hK => ?_
  refine wc [.agg (K86c2 a r_ f d g e i)] s k (control_Route_places_ok n k.has r_ ((rep_pair (rep_slice ak) (rep_pair (rep_pair rep_int rep_int) (rep_pair (rep_slice al) (rep_pair (rep_slice am) (rep_pair rep_int (rep_pair rep_int (rep_pair rep_int rep_int))))))) : rep h r_ _) ex14) fun a4 av a6 y ax o => ?_
  obtain rfl := y
  refine ⟨.one (.c (.int .i64 x14)), rfl, fun ap (ag : Kn 18 [(j, 0), (l, 0)] [(tI 14 x14), (tA 13 (K86c2 a r_ f d g e i)), (tI 12 b.stop), (tI 10 at_), (tB 9 false)] ap) => hK _ _ o.plOk ?_⟩
  refine Dr [8] (dn 8) [(tI 15 (IntKind.i64.wrap (x14 - 2))), (tI 12 b.stop), (tI 10 at_), (tB 9 false)] ag o fun a2 u => ?_
  obtain ⟨x16, ex16, H⟩ := bnd H
  refine D_loud 9 rfl (by kernel_rfl) (by decide) (wantedS_sound u (by kernel_rfl)) fun K hK => ?_
  refine wc [.c (.int .i64 at_), .c (.int .i64 b.stop), .c (.int .i64 (IntKind.i64.wrap (x14 - 2)))] u o (control_within_ok n o.has at_ b.stop (IntKind.i64.wrap (x14 - 2)) ex16) fun a5 aw a7 z ay p => ?_
  obtain rfl := z
  refine ⟨.one (.c (.bool x16)), rfl, fun aq (ah : Kn 18 [(j, 0), (l, 0)] [(tB 16 x16), (tI 15 (IntKind.i64.wrap (x14 - 2))), (tI 12 b.stop), (tI 10 at_), (tB 9 false)] aq) => hK _ _ p.plOk ?_⟩
  refine Dr [10, 11] (dn 11) [(tB 6 x16)] ah p fun a3 ai => ?_
  refine wpD_end (by kernel_rfl) (wp_ret ?_)
  obtain rfl := Option.some.inj H
  exact rt (.one (.c (.bool x16))) ai p rfl
abbrev K93c1 (x69 : Spare) : List SC := [.int .i64 x69.stop, .int .i64 x69.tm]
abbrev K93c2 (x69 : Spare) : List SC := [.int .i64 x69.stop, .int .i64 x69.tm, .int .i64 (-1)]
abbrev K93c3 (x17 : Bus) : List SC := [.int .i64 x17.stop, .int .i64 x17.tm.lo, .int .i64 x17.tm.hi]
abbrev K93c4 (aa : Option Addr) (t_ : Truth) (ac : Nat) (ab : Option Addr) (ad : Nat) (o : Option Addr) (p : Nat) : List SC := [.slice aa t_.tm.length ac, .slice ab t_.turns.length ad, .slice o t_.legs.length p]
abbrev K93c5 (x17 : Bus) (x25 x31 : Int) (w_ : Worked) (x42 : Int) : List SC := [.int .i64 x17.stop, .int .i64 (IntKind.i64.wrap (x25 + (IntKind.i64.wrap (x31 * w_.route.unit)))), .int .i64 x42]
abbrev K93e6 (g k av aw : Nat) (x_v22 : Int) (az bc be : Nat) : Env := [(g, 0), (k, 0), (av, aw + (x_v22 : Int).toNat * 2), (az, 0), (bc, be + (x_v22 : Int).toNat * 1)]
abbrev K93e7 (g k ak al : Nat) (x_v12 : Int) (am ap au ax ay a3 a5 : Nat) : Env := [(g, 0), (k, 0), (ak, al + (x_v12 : Int).toNat * 3), (am, 0), (ap, au + (x_v12 : Int).toNat * 1), (ax, ay + (x_v12 : Int).toNat * 1), (a3, a5 + (x_v12 : Int).toNat * 1)]
abbrev K93e8 (g k av aw : Nat) (x_v22 : Int) (az bc be br bx : Nat) (w_ : Worked) : Env := [(g, 0), (k, 0), (av, aw + (x_v22 : Int).toNat * 2), (az, 0), (bc, be + (x_v22 : Int).toNat * 1), (br, bx + (IntKind.i64.wrap (((w_.route.buses.length : Nat) : Int) + x_v22) : Int).toNat * 1)]
abbrev K93e9 (g k ak al : Nat) (x_v12 : Int) (am ap au ax ay a3 a5 bk bl bq bw : Nat) : Env := [(g, 0), (k, 0), (ak, al + (x_v12 : Int).toNat * 3), (am, 0), (ap, au + (x_v12 : Int).toNat * 1), (ax, ay + (x_v12 : Int).toNat * 1), (a3, a5 + (x_v12 : Int).toNat * 1), (bk, bl + (x_v12 : Int).toNat * 1), (bq, bw + (x_v12 : Int).toNat * 1)]
abbrev K93c10 (ae : Option Addr) (w_ : Worked) (ag : Nat) (b : Option Addr) (d : Nat) (e : Option Addr) (f : Nat) (q : Option Addr) (x : Nat) (s : Option Addr) (y : Nat) (u : Option Addr) (z : Nat) : List SC := [.slice ae w_.route.legs.length ag, .int .i64 w_.route.turn.lo, .int .i64 w_.route.turn.hi, .slice b w_.route.buses.length d, .slice e w_.route.spares.length f, .int .i64 w_.route.unit, .int .i64 w_.route.gap, .int .i64 w_.route.fr, .int .i64 w_.route.to_, .slice q w_.acts.holds.length x, .slice s w_.acts.turns.length y, .slice u w_.acts.spares.length z]
abbrev K93m11 (w_ : Worked) (e : Option Addr) (f : Nat) (af : Option Addr) (x_v21 : List Times) (ah : Nat) (an : Option Addr) (x_v20 : List Trip) (ao : Nat) : TM := [(tI 65 ((w_.route.spares.length : Nat) : Int)), (tS 64 e w_.route.spares.length f), (tS 5 af x_v21.length ah), (tS 4 an x_v20.length ao), (tP 3 1 0), (tP 2 0 0)]
abbrev K93m12 (ai : Option Addr) (x_v10 : List Trip) (aj : Nat) (x_v12 : Int) (w_ : Worked) (b : Option Addr) (d : Nat) (l : Option Addr) (x_v11 : List Times) (m : Nat) : TM := [(tS 19 ai x_v10.length aj), (tI 6 x_v12), (tI 14 x_v12), (tI 13 ((w_.route.buses.length : Nat) : Int)), (tS 12 b w_.route.buses.length d), (tS 5 l x_v11.length m), (tP 3 1 0), (tP 2 0 0)]
abbrev K93m13 (x_v12 : Int) (w_ : Worked) (b : Option Addr) (d : Nat) (l : Option Addr) (x_v11 : List Times) (m : Nat) (ai : Option Addr) (x_v10 : List Trip) (aj : Nat) : TM := [(tI 14 x_v12), (tI 13 ((w_.route.buses.length : Nat) : Int)), (tS 12 b w_.route.buses.length d), (tS 5 l x_v11.length m), (tS 4 ai x_v10.length aj), (tP 3 1 0), (tP 2 0 0)]
abbrev K93m14 (x_v12 : Int) (w_ : Worked) (b : Option Addr) (d : Nat) : TM := [(tI 14 x_v12), (tI 13 ((w_.route.buses.length : Nat) : Int)), (tS 12 b w_.route.buses.length d), (tP 3 1 0), (tP 2 0 0)]
abbrev K93m15 (af : Option Addr) (x_v21 : List Times) (ah : Nat) (bb : Option Addr) (x84 : List Trip) (bd : Nat) (x_v22 : Int) (w_ : Worked) (e : Option Addr) (f : Nat) : TM := [(tS 85 af x_v21.length ah), (tS 4 bb x84.length bd), (tI 66 x_v22), (tI 65 ((w_.route.spares.length : Nat) : Int)), (tS 64 e w_.route.spares.length f), (tP 3 1 0), (tP 2 0 0)]
abbrev K93m16 (x_v22 : Int) (w_ : Worked) (e : Option Addr) (f : Nat) (af : Option Addr) (x_v21 : List Times) (ah : Nat) : TM := [(tI 8 x_v22), (tI 66 x_v22), (tI 65 ((w_.route.spares.length : Nat) : Int)), (tS 64 e w_.route.spares.length f), (tS 5 af x_v21.length ah), (tP 3 1 0), (tP 2 0 0)]
set_option maxRecDepth 100000 in
set_option maxHeartbeats 4000000 in
theorem control_worked_trips_ok (n : Nat) {h : Heap} {w : World} (hh : Has h w) (w_ : Worked) {cs_w_ : List Value} (hx_w_ : rep h w_ cs_w_) (t_ : Truth) {cs_t_ : List Value} (hx_t_ : rep h t_ cs_t_) {r : (List Trip) × (List Times)} (H : control_worked_trips n w_ t_ = some r) :
  Calls Try.prog 93 #[.agg cs_w_.toArray, .agg cs_t_.toArray] w (Ret (fun h v => ∃ v0 v1, v = .tuple #[v0, v1] ∧ (∃ a c, v0 = .slice a r.1.length c ∧ RepS h a c r.1) ∧ (∃ a c, v1 = .slice a r.2.length c ∧ RepS h a c r.2)) h w) := by
 obtain ⟨_, _, rfl, ⟨_, _, rfl, ⟨ae, ag, rfl, en⟩, ⟨_, _, rfl, ⟨_, _, rfl, rfl, rfl⟩, ⟨_, _, rfl, ⟨b, d, rfl, cl⟩, ⟨_, _, rfl, ⟨e, f, rfl, cm⟩, ⟨_, _, rfl, rfl, ⟨_, _, rfl, rfl, ⟨_, _, rfl, rfl, rfl⟩⟩⟩⟩⟩⟩⟩, ⟨_, _, rfl, ⟨q, x, rfl, cg⟩, ⟨_, _, rfl, ⟨s, y, rfl, ch⟩, ⟨u, z, rfl, ci⟩⟩⟩⟩ := hx_w_
 obtain ⟨_, _, rfl, ⟨aa, ac, rfl, cj⟩, ⟨_, _, rfl, ⟨ab, ad, rfl, ck⟩, ⟨o, p, rfl, bv⟩⟩⟩ := hx_t_
 refine enter 102 [.agg (K93c10 ae w_ ag b d e f q x s y u z), .agg (K93c4 aa t_ ac ab ad o p)] Try.func93 rfl rfl rfl rfl fun t hk => ?_
 have hm := Mem.begin h w hh
 unfold control_worked_trips at H
 refine wp_seq (wp_region_from (wl fun K hK => ?_))
 refine wb (.agg (K93c10 ae w_ ag b d e f q x s y u z)) hk hm fun g jb jq (gn : Kn 102 [(g, 0)] [(tP 2 0 0), (tA 0 (K93c10 ae w_ ag b d e f q x s y u z)), (tA 1 (K93c4 aa t_ ac ab ad o p))] jb) (he : Mem ⟨w, h, noX⟩ h [(g, 0)] [⟨(K93c10 ae w_ ag b d e f q x s y u z), some 115⟩] [] jq) => hK _ _ ?_
 refine wl fun K hK => ?_
 refine wb (.agg (K93c4 aa t_ ac ab ad o p)) gn he fun k jf dz (gw : Kn 102 [(g, 0), (k, 0)] [(tP 3 1 0), (tP 2 0 0), (tA 0 (K93c10 ae w_ ag b d e f q x s y u z)), (tA 1 (K93c4 aa t_ ac ab ad o p))] jf) (dj : Mem ⟨w, h, noX⟩ h [(g, 0), (k, 0)] [⟨(K93c10 ae w_ ag b d e f q x s y u z), some 115⟩, ⟨(K93c4 aa t_ ac ab ad o p), some 76⟩] [] dz) => hK _ _ ?_
 refine Rk 2 2 [(tS 5 none 0 0), (tS 4 none 0 0), (tP 3 1 0), (tP 2 0 0)] gw dj fun kv g3 => ?_
 refine wf (wp_seq (wp_seq (wp_region_from (Rk 0 5 [(tI 14 0), (tI 13 ((w_.route.buses.length : Nat) : Int)), (tS 12 b w_.route.buses.length d), (tS 5 none 0 0), (tS 4 none 0 0), (tP 3 1 0), (tP 2 0 0)] g3 dj fun kw g4 => ?_))))
 refine wf ?_
 have hf : Mem ⟨w, h, noX⟩ h [(g, 0), (k, 0)] [⟨(K93c10 ae w_ ag b d e f q x s y u z), some 115⟩, ⟨(K93c4 aa t_ ac ab ad o p), some 76⟩] [⟨none, 0, 0, 153, 3, [], 0⟩] dz := dj.nilRow 153 3
 have fd : Cells h ([] : List Trip) [] := Cells.nil
 have hg : Mem ⟨w, h, noX⟩ h [(g, 0), (k, 0)] [⟨(K93c10 ae w_ ag b d e f q x s y u z), some 115⟩, ⟨(K93c4 aa t_ ac ab ad o p), some 76⟩] [⟨none, 0, 0, 153, 3, [], 0⟩, ⟨none, 0, 0, 158, 2, [], 0⟩] dz := hf.nilRow 158 2
 have fe : Cells h ([] : List Times) [] := Cells.nil
 obtain ⟨bj, d1, H⟩ := bnd H
 refine wp_mid' (fun a' w' => ∃ (b7 : Option Addr) (cb : Nat) (cv : List Value) (b8 : Option Addr) (cc : Nat) (cw : List Value) (dw : Array Value) (b0 : Heap), a' = ⟨dw, []⟩ ∧ Kn 102 [(g, 0), (k, 0)] [(tS 5 b8 bj.2.length cc), (tS 4 b7 bj.1.length cb), (tP 3 1 0), (tP 2 0 0)] dw ∧ Mem ⟨w, h, noX⟩ b0 [(g, 0), (k, 0)] [⟨(K93c10 ae w_ ag b d e f q x s y u z), some 115⟩, ⟨(K93c4 aa t_ ac ab ad o p), some 76⟩] [⟨b7, bj.1.length, cb, 153, 3, cv, 0⟩, ⟨b8, bj.2.length, cc, 158, 2, cw, 0⟩] w' ∧ Heap.le h b0 ∧ Cells b0 bj.1 cv ∧ Cells b0 bj.2 cw) ?_ ?_
 ·
  refine wp_block ?_
  refine wp_loop_n (fun ix a' w' => ∃ (x_v10 : List Trip) (x_v11 : List Times) (x_v12 : Int) (ai : Option Addr) (aj : Nat) (a6 : List Value) (l : Option Addr) (m : Nat) (a7 : List Value) (dx : Array Value) (aq : Heap), a' = ⟨dx, []⟩ ∧ Kn 102 [(g, 0), (k, 0)] (K93m13 x_v12 w_ b d l x_v11 m ai x_v10 aj) dx ∧ Mem ⟨w, h, noX⟩ aq [(g, 0), (k, 0)] [⟨(K93c10 ae w_ ag b d e f q x s y u z), some 115⟩, ⟨(K93c4 aa t_ ac ab ad o p), some 76⟩] [⟨ai, x_v10.length, aj, 153, 3, a6, 0⟩, ⟨l, x_v11.length, m, 158, 2, a7, 0⟩] w' ∧ Heap.le h aq ∧ Cells aq x_v10 a6 ∧ Cells aq x_v11 a7 ∧ control_worked_trips_l1 ix w_ t_ x_v10 x_v11 x_v12 = some bj) n ?_ ?_
  ·
   exact Exists.intro ([] : List Trip) ⟨([] : List Times), 0, none, 0, ([]), none, 0, ([]), _, _, rfl, g4.kp, hg, (Heap.le_refl _), fd, fe, d1⟩
  ·
   rintro dt _ ju ⟨x_v10, x_v11, x_v12, ai, aj, a6, l, m, a7, dx, aq, rfl, g5, ct, bu, d8, d9, ar⟩
   clear d1
   obtain _ | dt := dt
   ·
    rw [control_worked_trips_l1] at ar; cases ar
   rw [control_worked_trips_l1] at ar
   replace cl := cl.mono bu
   replace cg := cg.mono bu
   replace ch := ch.mono bu
   replace cj := cj.mono bu
   replace ck := ck.mono bu
   replace bv := bv.mono bu
   refine wp_seq (wp_region_from (Rk 0 1 ((tB 15 (decide (x_v12 < ((w_.route.buses.length : Nat) : Int)))) :: (K93m13 x_v12 w_ b d l x_v11 m ai x_v10 aj)) g5 ct fun kx db => ?_))
   refine wf (wp_seq (wC (decide (x_v12 < ((w_.route.buses.length : Nat) : Int))) db (fun c0 => ?_) (fun c0 => ?_)))
   ·
    rw [c0, cond_true] at ar
    refine wp_skip (wp_seq (wp_block (wp_seq (wp_region_from (Rk 0 1 ((tI 16 x_v12) :: (K93m13 x_v12 w_ b d l x_v11 m ai x_v10 aj)) db ct fun ky g6 => ?_)))))
    obtain ⟨x17, ex17, ar⟩ := bnd ar
    obtain ⟨hu, h3, iv⟩ := idx_some ex17
    obtain ⟨ak, al, j4, e0, ij, fh⟩ := cl.get (by decide) iv
    obtain ⟨_, _, rfl, rfl, ⟨_, _, rfl, rfl, rfl⟩⟩ := ij
    have el : Mem ⟨w, h, noX⟩ aq [(g, 0), (k, 0), (ak, al + (x_v12 : Int).toNat * 3)] [⟨(K93c10 ae w_ ag b d e f q x s y u z), some 115⟩, ⟨(K93c4 aa t_ ac ab ad o p), some 76⟩, ⟨(K93c3 x17), none⟩] [⟨ai, x_v10.length, aj, 153, 3, a6, 0⟩, ⟨l, x_v11.length, m, 158, 2, a7, 0⟩] ju := ct.addPlc (cs := (K93c3 x17)) (fun j c hj => fh j _ (map_get hj)) rfl (by kernel_rfl) (by kernel_rfl)
    refine R_index 1 (x_v12) rfl rfl (rfl) rfl (by decide) g6 (by rfl) (by rfl) (by rfl) e0 (by rfl) hu h3 (by kernel_rfl) fun jj (g7 : Kn 102 [(g, 0), (k, 0), (ak, al + (x_v12 : Int).toNat * 3)] ((tP 17 2 0) :: (tI 16 x_v12) :: (K93m13 x_v12 w_ b d l x_v11 m ai x_v10 aj)) jj) => ?_
    refine Rk 2 1 ((tA 18 (K93c3 x17)) :: (tI 16 x_v12) :: (K93m13 x_v12 w_ b d l x_v11 m ai x_v10 aj)) g7 el fun kz g8 => ?_
    refine wl fun K hK => ?_
    refine wa [.int .i64 0, .int .i64 0, .int .i64 0] g8 el fun am jk jv (g9 : Kn 102 [(g, 0), (k, 0), (ak, al + (x_v12 : Int).toNat * 3), (am, 0)] ((tP 7 3 0) :: (tA 18 (K93c3 x17)) :: (tI 16 x_v12) :: (K93m13 x_v12 w_ b d l x_v11 m ai x_v10 aj)) jk) (em : Mem ⟨w, h, noX⟩ aq [(g, 0), (k, 0), (ak, al + (x_v12 : Int).toNat * 3), (am, 0)] [⟨(K93c10 ae w_ ag b d e f q x s y u z), some 115⟩, ⟨(K93c4 aa t_ ac ab ad o p), some 76⟩, ⟨(K93c3 x17), none⟩, ⟨[.int .i64 0, .int .i64 0, .int .i64 0], some 96⟩] [⟨ai, x_v10.length, aj, 153, 3, a6, 0⟩, ⟨l, x_v11.length, m, 158, 2, a7, 0⟩] jv) => hK _ _ ?_
    refine Rk 4 1 ((tI 6 x_v12) :: (tP 7 3 0) :: (tA 18 (K93c3 x17)) :: (K93m13 x_v12 w_ b d l x_v11 m ai x_v10 aj)) g9 em fun iy fm => ?_
    refine wl fun K hK => ?_
    refine wst 3 0 (.agg (K93c3 x17)) (K93c3 x17) fm em fun cx fn (ce : Mem ⟨w, h, noX⟩ aq [(g, 0), (k, 0), (ak, al + (x_v12 : Int).toNat * 3), (am, 0)] [⟨(K93c10 ae w_ ag b d e f q x s y u z), some 115⟩, ⟨(K93c4 aa t_ ac ab ad o p), some 76⟩, ⟨(K93c3 x17), none⟩, ⟨(K93c3 x17), some 96⟩] [⟨ai, x_v10.length, aj, 153, 3, a6, 0⟩, ⟨l, x_v11.length, m, 158, 2, a7, 0⟩] cx) => hK _ _ ?_
    have fo : Kn 102 [(g, 0), (k, 0), (ak, al + (x_v12 : Int).toNat * 3), (am, 0)] ((tI 6 x_v12) :: (tP 7 3 0) :: (K93m13 x_v12 w_ b d l x_v11 m ai x_v10 aj)) iy := fn.kp
    refine wf (wp_seq (wp_region_G (by kernel_rfl) ?_))
    replace ce := ce.drew
    refine wpG_of_D [] [(g, 0), (k, 0), (ak, al + (x_v12 : Int).toNat * 3), (am, 0)] [⟨(K93c10 ae w_ ag b d e f q x s y u z), some 115⟩, ⟨(K93c4 aa t_ ac ab ad o p), some 76⟩, ⟨(K93c3 x17), none⟩, ⟨(K93c3 x17), some 96⟩] ?_
    refine Dr [0, 1, 2, 3, 4, 5] (dn 5) ((tI 24 x_v12) :: (tS 23 aa t_.tm.length ac) :: (tI 21 x17.stop) :: (K93m12 ai x_v10 aj x_v12 w_ b d l x_v11 m)) fo ce fun j6 fp => ?_
    obtain ⟨x25, ex25, ar⟩ := bnd ar
    obtain ⟨hl, hv, ik⟩ := idx_some ex25
    obtain ⟨ap, au, jw, es, h9, e1⟩ := cj.get (by decide) ik
    obtain rfl := h9
    have dc : Mem ⟨w, h, noX⟩ aq [(g, 0), (k, 0), (ak, al + (x_v12 : Int).toNat * 3), (am, 0), (ap, au + (x_v12 : Int).toNat * 1)] [⟨(K93c10 ae w_ ag b d e f q x s y u z), some 115⟩, ⟨(K93c4 aa t_ ac ab ad o p), some 76⟩, ⟨(K93c3 x17), none⟩, ⟨(K93c3 x17), some 96⟩, ⟨[.int .i64 x25], none⟩] [⟨ai, x_v10.length, aj, 153, 3, a6, 0⟩, ⟨l, x_v11.length, m, 158, 2, a7, 0⟩] (World.drew cx) := ce.addPlc (cs := [.int .i64 x25]) (fun j c hj => e1 j _ (map_get hj)) rfl (by kernel_rfl) (by kernel_rfl)
    refine D_index 6 (x_v12) [.int .i64 x25] (fun _ _ _ _ _ h => h) rfl rfl (rfl) rfl (by decide) (by kernel_rfl) (by kernel_rfl) fp ce.plOk (by rfl) (by rfl) (by rfl) es (by rfl) hl hv (by kernel_rfl) fun iz (fq : Kn 102 [(g, 0), (k, 0), (ak, al + (x_v12 : Int).toNat * 3), (am, 0), (ap, au + (x_v12 : Int).toNat * 1)] ((tP 25 4 0) :: (tI 24 x_v12) :: (tS 23 aa t_.tm.length ac) :: (tI 21 x17.stop) :: (K93m12 ai x_v10 aj x_v12 w_ b d l x_v11 m)) iz) => ?_
    refine Dr [7, 8, 9, 10, 11] (dn 11) ((tI 30 x_v12) :: (tS 29 q w_.acts.holds.length x) :: (tI 26 x25) :: (tI 21 x17.stop) :: (K93m12 ai x_v10 aj x_v12 w_ b d l x_v11 m)) fq dc fun j7 fs => ?_
    obtain ⟨x31, ex31, ar⟩ := bnd ar
    obtain ⟨hn, hw, il⟩ := idx_some ex31
    obtain ⟨ax, ay, jx, et, ia, e2⟩ := cg.get (by decide) il
    obtain rfl := ia
    have dd : Mem ⟨w, h, noX⟩ aq [(g, 0), (k, 0), (ak, al + (x_v12 : Int).toNat * 3), (am, 0), (ap, au + (x_v12 : Int).toNat * 1), (ax, ay + (x_v12 : Int).toNat * 1)] [⟨(K93c10 ae w_ ag b d e f q x s y u z), some 115⟩, ⟨(K93c4 aa t_ ac ab ad o p), some 76⟩, ⟨(K93c3 x17), none⟩, ⟨(K93c3 x17), some 96⟩, ⟨[.int .i64 x25], none⟩, ⟨[.int .i64 x31], none⟩] [⟨ai, x_v10.length, aj, 153, 3, a6, 0⟩, ⟨l, x_v11.length, m, 158, 2, a7, 0⟩] (World.drew cx) := dc.addPlc (cs := [.int .i64 x31]) (fun j c hj => e2 j _ (map_get hj)) rfl (by kernel_rfl) (by kernel_rfl)
    refine D_index 12 (x_v12) [.int .i64 x31] (fun _ _ _ _ _ h => h) rfl rfl (rfl) rfl (by decide) (by kernel_rfl) (by kernel_rfl) fs dc.plOk (by rfl) (by rfl) (by rfl) et (by rfl) hn hw (by kernel_rfl) fun i0 (ft : Kn 102 [(g, 0), (k, 0), (ak, al + (x_v12 : Int).toNat * 3), (am, 0), (ap, au + (x_v12 : Int).toNat * 1), (ax, ay + (x_v12 : Int).toNat * 1)] ((tP 31 5 0) :: (tI 30 x_v12) :: (tS 29 q w_.acts.holds.length x) :: (tI 26 x25) :: (tI 21 x17.stop) :: (K93m12 ai x_v10 aj x_v12 w_ b d l x_v11 m)) i0) => ?_
    refine Dr [13, 14, 15, 16, 17, 18, 19, 20, 21, 22] (dn 22) ((tI 41 x_v12) :: (tS 40 s w_.acts.turns.length y) :: (tI 37 (IntKind.i64.wrap (x25 + (IntKind.i64.wrap (x31 * w_.route.unit))))) :: (tI 21 x17.stop) :: (K93m12 ai x_v10 aj x_v12 w_ b d l x_v11 m)) ft dd fun j8 fu => ?_
    obtain ⟨x42, ex42, ar⟩ := bnd ar
    obtain ⟨ho, hx, im⟩ := idx_some ex42
    obtain ⟨a3, a5, jy, eu, ib, e3⟩ := ch.get (by decide) im
    obtain rfl := ib
    have ec : Mem ⟨w, h, noX⟩ aq (K93e7 g k ak al x_v12 am ap au ax ay a3 a5) [⟨(K93c10 ae w_ ag b d e f q x s y u z), some 115⟩, ⟨(K93c4 aa t_ ac ab ad o p), some 76⟩, ⟨(K93c3 x17), none⟩, ⟨(K93c3 x17), some 96⟩, ⟨[.int .i64 x25], none⟩, ⟨[.int .i64 x31], none⟩, ⟨[.int .i64 x42], none⟩] [⟨ai, x_v10.length, aj, 153, 3, a6, 0⟩, ⟨l, x_v11.length, m, 158, 2, a7, 0⟩] (World.drew cx) := dd.addPlc (cs := [.int .i64 x42]) (fun j c hj => e3 j _ (map_get hj)) rfl (by kernel_rfl) (by kernel_rfl)
    refine D_index 23 (x_v12) [.int .i64 x42] (fun _ _ _ _ _ h => h) rfl rfl (rfl) rfl (by decide) (by kernel_rfl) (by kernel_rfl) fu dd.plOk (by rfl) (by rfl) (by rfl) eu (by rfl) ho hx (by kernel_rfl) fun i1 (fv : Kn 102 (K93e7 g k ak al x_v12 am ap au ax ay a3 a5) ((tP 42 6 0) :: (tI 41 x_v12) :: (tS 40 s w_.acts.turns.length y) :: (tI 37 (IntKind.i64.wrap (x25 + (IntKind.i64.wrap (x31 * w_.route.unit))))) :: (tI 21 x17.stop) :: (K93m12 ai x_v10 aj x_v12 w_ b d l x_v11 m)) i1) => ?_
    refine Dr [24, 25] (dn 25) ((tA 44 (K93c5 x17 x25 x31 w_ x42)) :: (K93m12 ai x_v10 aj x_v12 w_ b d l x_v11 m)) fv ec fun j9 fw => ?_
    refine Dl 26 fun K hK => ?_
    refine wS 153 3 (K93c5 x17 x25 x31 w_ x42) fw ec fun bn i2 jl (fx : Kn 102 (K93e7 g k ak al x_v12 am ap au ax ay a3 a5) ((tS 45 bn 1 1) :: (tA 44 (K93c5 x17 x25 x31 w_ x42)) :: (K93m12 ai x_v10 aj x_v12 w_ b d l x_v11 m)) i2) (de : Mem ⟨w, h, noX⟩ aq (K93e7 g k ak al x_v12 am ap au ax ay a3 a5) [⟨(K93c10 ae w_ ag b d e f q x s y u z), some 115⟩, ⟨(K93c4 aa t_ ac ab ad o p), some 76⟩, ⟨(K93c3 x17), none⟩, ⟨(K93c3 x17), some 96⟩, ⟨[.int .i64 x25], none⟩, ⟨[.int .i64 x31], none⟩, ⟨[.int .i64 x42], none⟩] [⟨ai, x_v10.length, aj, 153, 3, a6, 0⟩, ⟨l, x_v11.length, m, 158, 2, a7, 0⟩, ⟨bn, 1, 1, 153, 3, ([.int .i64 x17.stop, .int .i64 (IntKind.i64.wrap (x25 + (IntKind.i64.wrap (x31 * w_.route.unit)))), .int .i64 x42] : List Value), 0⟩] jl) => ?_
    have c1 : Cells aq ([(Trip.mk x17.stop (IntKind.i64.wrap (x25 + (IntKind.i64.wrap (x31 * w_.route.unit)))) x42)] : List Trip) ([.int .i64 x17.stop, .int .i64 (IntKind.i64.wrap (x25 + (IntKind.i64.wrap (x31 * w_.route.unit)))), .int .i64 x42] : List Value) := ⟨_, _, rfl, ((rep_pair rep_int (rep_pair rep_int rep_int)) : rep aq ((Trip.mk x17.stop (IntKind.i64.wrap (x25 + (IntKind.i64.wrap (x31 * w_.route.unit)))) x42) : Trip) _), rfl⟩
    refine hK _ _ de.plOk ?_
    obtain ⟨x46, ex46, ar⟩ := bnd ar
    obtain ⟨dp, ha⟩ := app_some ex46
    refine Dl 27 fun K hK => ?_
    refine wp_append 0 24 1 _ (x46.length) _ ([.int .i64 x17.stop, .int .i64 (IntKind.i64.wrap (x25 + (IntKind.i64.wrap (x31 * w_.route.unit)))), .int .i64 x42] : List Value) fx de rfl rfl (by decide) rfl (by rfl) (by kernel_rfl) (by rfl) (by rfl) (Cells.len c1) (de.rowCell (i := 2) rfl) c1.one (by rw [dp]; simp) (by rw [dp]; exact ha) (by decide) fun a8 a9 d2 i3 dy fi (fy : Kn 102 (K93e7 g k ak al x_v12 am ap au ax ay a3 a5) ((tS 46 a8 x46.length a9) :: (tS 45 bn 1 1) :: (tA 44 (K93c5 x17 x25 x31 w_ x42)) :: (K93m12 ai x_v10 aj x_v12 w_ b d l x_v11 m)) i3) (b1 : Mem ⟨w, h, noX⟩ aq (K93e7 g k ak al x_v12 am ap au ax ay a3 a5) [⟨(K93c10 ae w_ ag b d e f q x s y u z), some 115⟩, ⟨(K93c4 aa t_ ac ab ad o p), some 76⟩, ⟨(K93c3 x17), none⟩, ⟨(K93c3 x17), some 96⟩, ⟨[.int .i64 x25], none⟩, ⟨[.int .i64 x31], none⟩, ⟨[.int .i64 x42], none⟩] [⟨a8, x46.length, a9, 153, 3, (a6 ++ ([.int .i64 x17.stop, .int .i64 (IntKind.i64.wrap (x25 + (IntKind.i64.wrap (x31 * w_.route.unit)))), .int .i64 x42] : List Value)), d2⟩, ⟨l, x_v11.length, m, 158, 2, a7, 0⟩, ⟨bn, 1, 1, 153, 3, ([.int .i64 x17.stop, .int .i64 (IntKind.i64.wrap (x25 + (IntKind.i64.wrap (x31 * w_.route.unit)))), .int .i64 x42] : List Value), 0⟩] dy) => ?_
    have e4 : Cells aq x46 (a6 ++ ([.int .i64 x17.stop, .int .i64 (IntKind.i64.wrap (x25 + (IntKind.i64.wrap (x31 * w_.route.unit)))), .int .i64 x42] : List Value)) := by rw [dp]; exact Cells.append d8 c1
    obtain rfl : d2 = 0 := Nat.le_zero.1 fi
    refine hK _ _ b1.plOk ?_
    refine Dr [28] (dn 28) [(tS 4 a8 x46.length a9), (tI 6 x_v12), (tI 14 x_v12), (tI 13 ((w_.route.buses.length : Nat) : Int)), (tS 12 b w_.route.buses.length d), (tS 5 l x_v11.length m), (tP 3 1 0), (tP 2 0 0)] fy b1 fun ka fz => ?_
    refine wpD_end (by kernel_rfl) (wp_region_G (by kernel_rfl) ?_)
    replace b1 := b1.drew
    refine wpG_of_D [] (K93e7 g k ak al x_v12 am ap au ax ay a3 a5) [⟨(K93c10 ae w_ ag b d e f q x s y u z), some 115⟩, ⟨(K93c4 aa t_ ac ab ad o p), some 76⟩, ⟨(K93c3 x17), none⟩, ⟨(K93c3 x17), some 96⟩, ⟨[.int .i64 x25], none⟩, ⟨[.int .i64 x31], none⟩, ⟨[.int .i64 x42], none⟩] ?_
    refine Dr [0, 1, 2, 3] (dn 3) ((tI 50 x_v12) :: (tS 49 o t_.legs.length p) :: (tS 47 l x_v11.length m) :: (tS 4 a8 x46.length a9) :: (tI 6 x_v12) :: (K93m14 x_v12 w_ b d)) fz b1 fun kb f0 => ?_
    obtain ⟨x51, ex51, ar⟩ := bnd ar
    obtain ⟨hp, hy, io⟩ := idx_some ex51
    obtain ⟨bk, bl, jz, ev, ic, e5⟩ := bv.get (by decide) io
    obtain ⟨a2, a4, rfl, h4⟩ := ic
    have df : Mem ⟨w, h, noX⟩ aq [(g, 0), (k, 0), (ak, al + (x_v12 : Int).toNat * 3), (am, 0), (ap, au + (x_v12 : Int).toNat * 1), (ax, ay + (x_v12 : Int).toNat * 1), (a3, a5 + (x_v12 : Int).toNat * 1), (bk, bl + (x_v12 : Int).toNat * 1)] [⟨(K93c10 ae w_ ag b d e f q x s y u z), some 115⟩, ⟨(K93c4 aa t_ ac ab ad o p), some 76⟩, ⟨(K93c3 x17), none⟩, ⟨(K93c3 x17), some 96⟩, ⟨[.int .i64 x25], none⟩, ⟨[.int .i64 x31], none⟩, ⟨[.int .i64 x42], none⟩, ⟨[.slice a2 x51.length a4], none⟩] [⟨a8, x46.length, a9, 153, 3, (a6 ++ ([.int .i64 x17.stop, .int .i64 (IntKind.i64.wrap (x25 + (IntKind.i64.wrap (x31 * w_.route.unit)))), .int .i64 x42] : List Value)), 0⟩, ⟨l, x_v11.length, m, 158, 2, a7, 0⟩, ⟨bn, 1, 1, 153, 3, ([.int .i64 x17.stop, .int .i64 (IntKind.i64.wrap (x25 + (IntKind.i64.wrap (x31 * w_.route.unit)))), .int .i64 x42] : List Value), 0⟩] (World.drew dy) := b1.addPlc (cs := [.slice a2 x51.length a4]) (fun j c hj => e5 j _ (map_get hj)) rfl (by kernel_rfl) (by kernel_rfl)
    refine D_index 4 (x_v12) [.slice a2 x51.length a4] (fun _ _ _ _ _ h => h) rfl rfl (rfl) rfl (by decide) (by kernel_rfl) (by kernel_rfl) f0 b1.plOk (by rfl) (by rfl) (by rfl) ev (by rfl) hp hy (by kernel_rfl) fun i4 (f1 : Kn 102 [(g, 0), (k, 0), (ak, al + (x_v12 : Int).toNat * 3), (am, 0), (ap, au + (x_v12 : Int).toNat * 1), (ax, ay + (x_v12 : Int).toNat * 1), (a3, a5 + (x_v12 : Int).toNat * 1), (bk, bl + (x_v12 : Int).toNat * 1)] ((tP 51 7 0) :: (tI 50 x_v12) :: (tS 49 o t_.legs.length p) :: (tS 47 l x_v11.length m) :: (tS 4 a8 x46.length a9) :: (tI 6 x_v12) :: (K93m14 x_v12 w_ b d)) i4) => ?_
    refine Dr [5, 6, 7, 8] (dn 8) ((tI 55 x_v12) :: (tS 54 ab t_.turns.length ad) :: (tS 52 a2 x51.length a4) :: (tS 47 l x_v11.length m) :: (tS 4 a8 x46.length a9) :: (K93m14 x_v12 w_ b d)) f1 df fun kc f2 => ?_
    obtain ⟨x56, ex56, ar⟩ := bnd ar
    obtain ⟨hq, hz, ip⟩ := idx_some ex56
    obtain ⟨bq, bw, j0, ew, ie, e6⟩ := ck.get (by decide) ip
    obtain rfl := ie
    have ed : Mem ⟨w, h, noX⟩ aq (K93e9 g k ak al x_v12 am ap au ax ay a3 a5 bk bl bq bw) [⟨(K93c10 ae w_ ag b d e f q x s y u z), some 115⟩, ⟨(K93c4 aa t_ ac ab ad o p), some 76⟩, ⟨(K93c3 x17), none⟩, ⟨(K93c3 x17), some 96⟩, ⟨[.int .i64 x25], none⟩, ⟨[.int .i64 x31], none⟩, ⟨[.int .i64 x42], none⟩, ⟨[.slice a2 x51.length a4], none⟩, ⟨[.int .i64 x56], none⟩] [⟨a8, x46.length, a9, 153, 3, (a6 ++ ([.int .i64 x17.stop, .int .i64 (IntKind.i64.wrap (x25 + (IntKind.i64.wrap (x31 * w_.route.unit)))), .int .i64 x42] : List Value)), 0⟩, ⟨l, x_v11.length, m, 158, 2, a7, 0⟩, ⟨bn, 1, 1, 153, 3, ([.int .i64 x17.stop, .int .i64 (IntKind.i64.wrap (x25 + (IntKind.i64.wrap (x31 * w_.route.unit)))), .int .i64 x42] : List Value), 0⟩] (World.drew dy) := df.addPlc (cs := [.int .i64 x56]) (fun j c hj => e6 j _ (map_get hj)) rfl (by kernel_rfl) (by kernel_rfl)
    refine D_index 9 (x_v12) [.int .i64 x56] (fun _ _ _ _ _ h => h) rfl rfl (rfl) rfl (by decide) (by kernel_rfl) (by kernel_rfl) f2 df.plOk (by rfl) (by rfl) (by rfl) ew (by rfl) hq hz (by kernel_rfl) fun i5 (f3 : Kn 102 (K93e9 g k ak al x_v12 am ap au ax ay a3 a5 bk bl bq bw) ((tP 56 8 0) :: (tI 55 x_v12) :: (tS 54 ab t_.turns.length ad) :: (tS 52 a2 x51.length a4) :: (tS 47 l x_v11.length m) :: (tS 4 a8 x46.length a9) :: (K93m14 x_v12 w_ b d)) i5) => ?_
    refine Dr [10, 11] (dn 11) ((tA 58 [.slice a2 x51.length a4, .int .i64 x56]) :: (tS 47 l x_v11.length m) :: (tS 4 a8 x46.length a9) :: (K93m14 x_v12 w_ b d)) f3 ed fun kd f4 => ?_
    refine Dl 12 fun K hK => ?_
    refine wS 158 2 [.slice a2 x51.length a4, .int .i64 x56] f4 ed fun cn i6 jm (f5 : Kn 102 (K93e9 g k ak al x_v12 am ap au ax ay a3 a5 bk bl bq bw) ((tS 59 cn 1 1) :: (tA 58 [.slice a2 x51.length a4, .int .i64 x56]) :: (tS 47 l x_v11.length m) :: (tS 4 a8 x46.length a9) :: (K93m14 x_v12 w_ b d)) i6) (dg : Mem ⟨w, h, noX⟩ aq (K93e9 g k ak al x_v12 am ap au ax ay a3 a5 bk bl bq bw) [⟨(K93c10 ae w_ ag b d e f q x s y u z), some 115⟩, ⟨(K93c4 aa t_ ac ab ad o p), some 76⟩, ⟨(K93c3 x17), none⟩, ⟨(K93c3 x17), some 96⟩, ⟨[.int .i64 x25], none⟩, ⟨[.int .i64 x31], none⟩, ⟨[.int .i64 x42], none⟩, ⟨[.slice a2 x51.length a4], none⟩, ⟨[.int .i64 x56], none⟩] [⟨a8, x46.length, a9, 153, 3, (a6 ++ ([.int .i64 x17.stop, .int .i64 (IntKind.i64.wrap (x25 + (IntKind.i64.wrap (x31 * w_.route.unit)))), .int .i64 x42] : List Value)), 0⟩, ⟨l, x_v11.length, m, 158, 2, a7, 0⟩, ⟨bn, 1, 1, 153, 3, ([.int .i64 x17.stop, .int .i64 (IntKind.i64.wrap (x25 + (IntKind.i64.wrap (x31 * w_.route.unit)))), .int .i64 x42] : List Value), 0⟩, ⟨cn, 1, 1, 158, 2, ([.slice a2 x51.length a4, .int .i64 x56] : List Value), 0⟩] jm) => ?_
    have c2 : Cells aq ([(Times.mk x51 x56)] : List Times) ([.slice a2 x51.length a4, .int .i64 x56] : List Value) := ⟨_, _, rfl, ((rep_pair (rep_slice h4) rep_int) : rep aq ((Times.mk x51 x56) : Times) _), rfl⟩
    refine hK _ _ dg.plOk ?_
    obtain ⟨x60, ex60, ar⟩ := bnd ar
    obtain ⟨dq, hb⟩ := app_some ex60
    refine Dl 13 fun K hK => ?_
    refine wp_append 1 32 1 _ (x60.length) _ ([.slice a2 x51.length a4, .int .i64 x56] : List Value) f5 dg rfl rfl (by decide) rfl (by rfl) (by kernel_rfl) (by rfl) (by rfl) (Cells.len c2) (dg.rowCell (i := 3) rfl) c2.one (by rw [dq]; simp) (by rw [dq]; exact hb) (by decide) fun b5 b9 d3 i7 jn fj (f6 : Kn 102 (K93e9 g k ak al x_v12 am ap au ax ay a3 a5 bk bl bq bw) ((tS 60 b5 x60.length b9) :: (tS 59 cn 1 1) :: (tA 58 [.slice a2 x51.length a4, .int .i64 x56]) :: (tS 47 l x_v11.length m) :: (tS 4 a8 x46.length a9) :: (K93m14 x_v12 w_ b d)) i7) (cp : Mem ⟨w, h, noX⟩ aq (K93e9 g k ak al x_v12 am ap au ax ay a3 a5 bk bl bq bw) [⟨(K93c10 ae w_ ag b d e f q x s y u z), some 115⟩, ⟨(K93c4 aa t_ ac ab ad o p), some 76⟩, ⟨(K93c3 x17), none⟩, ⟨(K93c3 x17), some 96⟩, ⟨[.int .i64 x25], none⟩, ⟨[.int .i64 x31], none⟩, ⟨[.int .i64 x42], none⟩, ⟨[.slice a2 x51.length a4], none⟩, ⟨[.int .i64 x56], none⟩] [⟨a8, x46.length, a9, 153, 3, (a6 ++ ([.int .i64 x17.stop, .int .i64 (IntKind.i64.wrap (x25 + (IntKind.i64.wrap (x31 * w_.route.unit)))), .int .i64 x42] : List Value)), 0⟩, ⟨b5, x60.length, b9, 158, 2, (a7 ++ ([.slice a2 x51.length a4, .int .i64 x56] : List Value)), d3⟩, ⟨bn, 1, 1, 153, 3, ([.int .i64 x17.stop, .int .i64 (IntKind.i64.wrap (x25 + (IntKind.i64.wrap (x31 * w_.route.unit)))), .int .i64 x42] : List Value), 0⟩, ⟨cn, 1, 1, 158, 2, ([.slice a2 x51.length a4, .int .i64 x56] : List Value), 0⟩] jn) => ?_
    have e7 : Cells aq x60 (a7 ++ ([.slice a2 x51.length a4, .int .i64 x56] : List Value)) := by rw [dq]; exact Cells.append d9 c2
    obtain rfl : d3 = 0 := Nat.le_zero.1 fj
    refine hK _ _ cp.plOk ?_
    refine Dr [14] (dn 14) ((tS 5 b5 x60.length b9) :: (tS 4 a8 x46.length a9) :: (K93m14 x_v12 w_ b d)) f6 cp fun ke f7 => ?_
    refine wpD_end (by kernel_rfl) (wp_region_from (Rk 0 2 [(tI 14 (IntKind.i64.wrap (x_v12 + 1))), (tS 5 b5 x60.length b9), (tS 4 a8 x46.length a9), (tI 13 ((w_.route.buses.length : Nat) : Int)), (tS 12 b w_.route.buses.length d), (tP 3 1 0), (tP 2 0 0)] f7 cp fun kf f8 => ?_))
    refine wf ?_
    exact Exists.intro dt ⟨Nat.lt_succ_self _, Exists.intro x46 ⟨x60, (IntKind.i64.wrap (x_v12 + 1)), a8, a9, (a6 ++ ([.int .i64 x17.stop, .int .i64 (IntKind.i64.wrap (x25 + (IntKind.i64.wrap (x31 * w_.route.unit)))), .int .i64 x42] : List Value)), b5, b9, (a7 ++ ([.slice a2 x51.length a4, .int .i64 x56] : List Value)), _, _, rfl, ((f8.keep [14, 13, 12, 5, 4, 3, 2] (by rfl)).cut 2 (by kernel_rfl)), ((cp.cutRw 2).cutPl 2 (by kernel_rfl)), bu, e4, e7, ar⟩⟩
   ·
    rw [c0, cond_false] at ar
    refine wp_exit ?_
    obtain rfl := Option.some.inj ar
    exact Exists.intro ai ⟨aj, a6, l, m, a7, _, _, rfl, db.kp, ct, bu, d8, d9⟩
 ·
  rintro _ k0 ⟨b7, cb, cv, b8, cc, cw, dw, b0, rfl, f9, ee, bm, ff, fg⟩
  replace en := en.mono bm
  replace cl := cl.mono bm
  replace cm := cm.mono bm
  replace cg := cg.mono bm
  replace ch := ch.mono bm
  replace ci := ci.mono bm
  replace cj := cj.mono bm
  replace ck := ck.mono bm
  replace bv := bv.mono bm
  refine wp_seq (wp_seq (wp_region_from (Rk 0 5 [(tI 66 0), (tI 65 ((w_.route.spares.length : Nat) : Int)), (tS 64 e w_.route.spares.length f), (tS 5 b8 bj.2.length cc), (tS 4 b7 bj.1.length cb), (tP 3 1 0), (tP 2 0 0)] f9 ee fun kg ga => ?_)))
  refine wf ?_
  obtain ⟨ba, d0, H⟩ := bnd H
  refine wp_mid' (fun a' w' => ∃ (bo : Option Addr) (bs : Nat) (b2 : List Value) (bp : Option Addr) (bt : Nat) (b4 : List Value) (du : Array Value) (cd : Heap), a' = ⟨du, []⟩ ∧ Kn 102 [(g, 0), (k, 0)] [(tS 5 bp ba.2.length bt), (tS 4 bo ba.1.length bs)] du ∧ Mem ⟨w, h, noX⟩ cd [(g, 0), (k, 0)] [⟨(K93c10 ae w_ ag b d e f q x s y u z), some 115⟩, ⟨(K93c4 aa t_ ac ab ad o p), some 76⟩] [⟨bo, ba.1.length, bs, 153, 3, b2, 0⟩, ⟨bp, ba.2.length, bt, 158, 2, b4, 0⟩] w' ∧ Heap.le b0 cd ∧ Cells cd ba.1 b2 ∧ Cells cd ba.2 b4) ?_ ?_
  ·
   refine wp_block ?_
   refine wp_loop_n (fun iw a' w' => ∃ (x_v20 : List Trip) (x_v21 : List Times) (x_v22 : Int) (an : Option Addr) (ao : Nat) (bf : List Value) (af : Option Addr) (ah : Nat) (bg : List Value) (dv : Array Value) (a0 : Heap), a' = ⟨dv, []⟩ ∧ Kn 102 [(g, 0), (k, 0)] ((tI 66 x_v22) :: (K93m11 w_ e f af x_v21 ah an x_v20 ao)) dv ∧ Mem ⟨w, h, noX⟩ a0 [(g, 0), (k, 0)] [⟨(K93c10 ae w_ ag b d e f q x s y u z), some 115⟩, ⟨(K93c4 aa t_ ac ab ad o p), some 76⟩] [⟨an, x_v20.length, ao, 153, 3, bf, 0⟩, ⟨af, x_v21.length, ah, 158, 2, bg, 0⟩] w' ∧ Heap.le b0 a0 ∧ Cells a0 x_v20 bf ∧ Cells a0 x_v21 bg ∧ control_worked_trips_l2 iw w_ t_ x_v20 x_v21 x_v22 = some ba) n ?_ ?_
   ·
    exact Exists.intro bj.1 ⟨bj.2, 0, b7, cb, cv, b8, cc, cw, _, _, rfl, ga.kp, ee, (Heap.le_refl _), ff, fg, d0⟩
   ·
    rintro cu _ jo ⟨x_v20, x_v21, x_v22, an, ao, bf, af, ah, bg, dv, a0, rfl, gb, cq, b3, c3, c4, a1⟩
    clear d0
    obtain _ | cu := cu
    ·
     rw [control_worked_trips_l2] at a1; cases a1
    rw [control_worked_trips_l2] at a1
    replace cm := cm.mono b3
    replace ci := ci.mono b3
    replace bv := bv.mono b3
    refine wp_seq (wp_region_from (Rk 0 1 ((tB 67 (decide (x_v22 < ((w_.route.spares.length : Nat) : Int)))) :: (tI 66 x_v22) :: (K93m11 w_ e f af x_v21 ah an x_v20 ao)) gb cq fun kh c9 => ?_))
    refine wf (wp_seq (wC (decide (x_v22 < ((w_.route.spares.length : Nat) : Int))) c9 (fun cy => ?_) (fun cy => ?_)))
    ·
     rw [cy, cond_true] at a1
     refine wp_skip (wp_seq (wp_block (wp_seq (wp_region_from (Rk 0 1 ((tI 68 x_v22) :: (tI 66 x_v22) :: (K93m11 w_ e f af x_v21 ah an x_v20 ao)) c9 cq fun ki gc => ?_)))))
     obtain ⟨x69, ex69, a1⟩ := bnd a1
     obtain ⟨hr, h0, iq⟩ := idx_some ex69
     obtain ⟨av, aw, j1, ex, ig, e8⟩ := cm.get (by decide) iq
     obtain ⟨_, _, rfl, rfl, rfl⟩ := ig
     have ef : Mem ⟨w, h, noX⟩ a0 [(g, 0), (k, 0), (av, aw + (x_v22 : Int).toNat * 2)] [⟨(K93c10 ae w_ ag b d e f q x s y u z), some 115⟩, ⟨(K93c4 aa t_ ac ab ad o p), some 76⟩, ⟨(K93c1 x69), none⟩] [⟨an, x_v20.length, ao, 153, 3, bf, 0⟩, ⟨af, x_v21.length, ah, 158, 2, bg, 0⟩] jo := cq.addPlc (cs := (K93c1 x69)) (fun j c hj => e8 j _ (map_get hj)) rfl (by kernel_rfl) (by kernel_rfl)
     refine R_index 1 (x_v22) rfl rfl (rfl) rfl (by decide) gc (by rfl) (by rfl) (by rfl) ex (by rfl) hr h0 (by kernel_rfl) fun i8 (gd : Kn 102 [(g, 0), (k, 0), (av, aw + (x_v22 : Int).toNat * 2)] ((tP 69 2 0) :: (tI 68 x_v22) :: (tI 66 x_v22) :: (K93m11 w_ e f af x_v21 ah an x_v20 ao)) i8) => ?_
     refine Rk 2 1 ((tA 70 (K93c1 x69)) :: (tI 68 x_v22) :: (tI 66 x_v22) :: (K93m11 w_ e f af x_v21 ah an x_v20 ao)) gd ef fun kj gf => ?_
     refine wl fun K hK => ?_
     refine wa [.int .i64 0, .int .i64 0] gf ef fun az i9 jp (gg : Kn 102 [(g, 0), (k, 0), (av, aw + (x_v22 : Int).toNat * 2), (az, 0)] ((tP 9 3 0) :: (tA 70 (K93c1 x69)) :: (tI 68 x_v22) :: (tI 66 x_v22) :: (K93m11 w_ e f af x_v21 ah an x_v20 ao)) i9) (eg : Mem ⟨w, h, noX⟩ a0 [(g, 0), (k, 0), (av, aw + (x_v22 : Int).toNat * 2), (az, 0)] [⟨(K93c10 ae w_ ag b d e f q x s y u z), some 115⟩, ⟨(K93c4 aa t_ ac ab ad o p), some 76⟩, ⟨(K93c1 x69), none⟩, ⟨[.int .i64 0, .int .i64 0], some 110⟩] [⟨an, x_v20.length, ao, 153, 3, bf, 0⟩, ⟨af, x_v21.length, ah, 158, 2, bg, 0⟩] jp) => hK _ _ ?_
     refine Rk 4 1 ((tI 8 x_v22) :: (tP 9 3 0) :: (tA 70 (K93c1 x69)) :: (tI 66 x_v22) :: (K93m11 w_ e f af x_v21 ah an x_v20 ao)) gg eg fun ja gh => ?_
     refine wl fun K hK => ?_
     refine wst 3 0 (.agg (K93c1 x69)) (K93c1 x69) gh eg fun eo gi (eh : Mem ⟨w, h, noX⟩ a0 [(g, 0), (k, 0), (av, aw + (x_v22 : Int).toNat * 2), (az, 0)] [⟨(K93c10 ae w_ ag b d e f q x s y u z), some 115⟩, ⟨(K93c4 aa t_ ac ab ad o p), some 76⟩, ⟨(K93c1 x69), none⟩, ⟨(K93c1 x69), some 110⟩] [⟨an, x_v20.length, ao, 153, 3, bf, 0⟩, ⟨af, x_v21.length, ah, 158, 2, bg, 0⟩] eo) => hK _ _ ?_
     have gj : Kn 102 [(g, 0), (k, 0), (av, aw + (x_v22 : Int).toNat * 2), (az, 0)] ((tI 8 x_v22) :: (tP 9 3 0) :: (tI 66 x_v22) :: (K93m11 w_ e f af x_v21 ah an x_v20 ao)) ja := gi.kp
     refine wf (wp_seq (wp_region_from (Rk 0 4 ((tI 74 x_v22) :: (tS 73 u w_.acts.spares.length z) :: (tI 8 x_v22) :: (tP 9 3 0) :: (tI 66 x_v22) :: (K93m11 w_ e f af x_v21 ah an x_v20 ao)) gj eh fun kk gk => ?_)))
     obtain ⟨x75, ex75, a1⟩ := bnd a1
     obtain ⟨hs, h1, ir⟩ := idx_some ex75
     obtain ⟨bc, be, j2, ey, ih, e9⟩ := ci.get (by decide) ir
     obtain rfl := ih
     have cf : Mem ⟨w, h, noX⟩ a0 (K93e6 g k av aw x_v22 az bc be) [⟨(K93c10 ae w_ ag b d e f q x s y u z), some 115⟩, ⟨(K93c4 aa t_ ac ab ad o p), some 76⟩, ⟨(K93c1 x69), none⟩, ⟨(K93c1 x69), some 110⟩, ⟨[.bool x75], none⟩] [⟨an, x_v20.length, ao, 153, 3, bf, 0⟩, ⟨af, x_v21.length, ah, 158, 2, bg, 0⟩] eo := eh.addPlc (cs := [.bool x75]) (fun j c hj => e9 j _ (map_get hj)) rfl (by kernel_rfl) (by kernel_rfl)
     refine R_index 4 (x_v22) rfl rfl (rfl) rfl (by decide) gk (by rfl) (by rfl) (by rfl) ey (by rfl) hs h1 (by kernel_rfl) fun jc (gl : Kn 102 (K93e6 g k av aw x_v22 az bc be) ((tP 75 4 0) :: (tI 74 x_v22) :: (tS 73 u w_.acts.spares.length z) :: (tI 8 x_v22) :: (tP 9 3 0) :: (tI 66 x_v22) :: (K93m11 w_ e f af x_v21 ah an x_v20 ao)) jc) => ?_
     refine Rk 5 1 ((tB 76 x75) :: (tI 8 x_v22) :: (tP 9 3 0) :: (tI 66 x_v22) :: (K93m11 w_ e f af x_v21 ah an x_v20 ao)) gl cf fun kl da => ?_
     refine wf (wC (x75) da (fun cz => ?_) (fun cz => ?_))
     ·
      rw [cz, cond_true] at a1
      refine wp_seq (wp_region_from (Rk 0 6 ((tA 82 (K93c2 x69)) :: (tS 77 an x_v20.length ao) :: (K93m16 x_v22 w_ e f af x_v21 ah)) da cf fun km gm => ?_))
      refine wl fun K hK => ?_
      refine wS 153 3 (K93c2 x69) gm cf fun bz jd jr (go : Kn 102 (K93e6 g k av aw x_v22 az bc be) ((tS 83 bz 1 1) :: (tA 82 (K93c2 x69)) :: (tS 77 an x_v20.length ao) :: (K93m16 x_v22 w_ e f af x_v21 ah)) jd) (ei : Mem ⟨w, h, noX⟩ a0 (K93e6 g k av aw x_v22 az bc be) [⟨(K93c10 ae w_ ag b d e f q x s y u z), some 115⟩, ⟨(K93c4 aa t_ ac ab ad o p), some 76⟩, ⟨(K93c1 x69), none⟩, ⟨(K93c1 x69), some 110⟩, ⟨[.bool x75], none⟩] [⟨an, x_v20.length, ao, 153, 3, bf, 0⟩, ⟨af, x_v21.length, ah, 158, 2, bg, 0⟩, ⟨bz, 1, 1, 153, 3, ([.int .i64 x69.stop, .int .i64 x69.tm, .int .i64 (-1)] : List Value), 0⟩] jr) => ?_
      have c7 : Cells a0 ([(Trip.mk x69.stop x69.tm (-1))] : List Trip) ([.int .i64 x69.stop, .int .i64 x69.tm, .int .i64 (-1)] : List Value) := ⟨_, _, rfl, ((rep_pair rep_int (rep_pair rep_int rep_int)) : rep a0 ((Trip.mk x69.stop x69.tm (-1)) : Trip) _), rfl⟩
      refine hK _ _ ?_
      obtain ⟨x84, ex84, a1⟩ := bnd a1
      obtain ⟨dr, hc⟩ := app_some ex84
      refine wl fun K hK => ?_
      refine wp_append 0 24 1 _ (x84.length) _ ([.int .i64 x69.stop, .int .i64 x69.tm, .int .i64 (-1)] : List Value) go ei rfl rfl (by decide) rfl (by rfl) (by kernel_rfl) (by rfl) (by rfl) (Cells.len c7) (ei.rowCell (i := 2) rfl) c7.one (by rw [dr]; simp) (by rw [dr]; exact hc) (by decide) fun bb bd d4 je ep fk (gp : Kn 102 (K93e6 g k av aw x_v22 az bc be) ((tS 84 bb x84.length bd) :: (tS 83 bz 1 1) :: (tA 82 (K93c2 x69)) :: (tS 77 an x_v20.length ao) :: (K93m16 x_v22 w_ e f af x_v21 ah)) je) (dh : Mem ⟨w, h, noX⟩ a0 (K93e6 g k av aw x_v22 az bc be) [⟨(K93c10 ae w_ ag b d e f q x s y u z), some 115⟩, ⟨(K93c4 aa t_ ac ab ad o p), some 76⟩, ⟨(K93c1 x69), none⟩, ⟨(K93c1 x69), some 110⟩, ⟨[.bool x75], none⟩] [⟨bb, x84.length, bd, 153, 3, (bf ++ ([.int .i64 x69.stop, .int .i64 x69.tm, .int .i64 (-1)] : List Value)), d4⟩, ⟨af, x_v21.length, ah, 158, 2, bg, 0⟩, ⟨bz, 1, 1, 153, 3, ([.int .i64 x69.stop, .int .i64 x69.tm, .int .i64 (-1)] : List Value), 0⟩] ep) => ?_
      have fa : Cells a0 x84 (bf ++ ([.int .i64 x69.stop, .int .i64 x69.tm, .int .i64 (-1)] : List Value)) := by rw [dr]; exact Cells.append c3 c7
      obtain rfl : d4 = 0 := Nat.le_zero.1 fk
      refine hK _ _ ?_
      refine Rk 8 1 ((tS 4 bb x84.length bd) :: (K93m16 x_v22 w_ e f af x_v21 ah)) gp dh fun kn gq => ?_
      refine wf (wp_region_from (Rk 0 9 ((tI 93 (IntKind.i64.wrap (((w_.route.buses.length : Nat) : Int) + x_v22))) :: (tS 87 o t_.legs.length p) :: (K93m15 af x_v21 ah bb x84 bd x_v22 w_ e f)) gq dh fun ko gr => ?_))
      obtain ⟨x94, ex94, a1⟩ := bnd a1
      obtain ⟨ht, h2, iu⟩ := idx_some ex94
      obtain ⟨br, bx, j3, ez, ii, fb⟩ := bv.get (by decide) iu
      obtain ⟨bh, bi, rfl, h5⟩ := ii
      have ej : Mem ⟨w, h, noX⟩ a0 (K93e8 g k av aw x_v22 az bc be br bx w_) [⟨(K93c10 ae w_ ag b d e f q x s y u z), some 115⟩, ⟨(K93c4 aa t_ ac ab ad o p), some 76⟩, ⟨(K93c1 x69), none⟩, ⟨(K93c1 x69), some 110⟩, ⟨[.bool x75], none⟩, ⟨[.slice bh x94.length bi], none⟩] [⟨bb, x84.length, bd, 153, 3, (bf ++ ([.int .i64 x69.stop, .int .i64 x69.tm, .int .i64 (-1)] : List Value)), 0⟩, ⟨af, x_v21.length, ah, 158, 2, bg, 0⟩, ⟨bz, 1, 1, 153, 3, ([.int .i64 x69.stop, .int .i64 x69.tm, .int .i64 (-1)] : List Value), 0⟩] ep := dh.addPlc (cs := [.slice bh x94.length bi]) (fun j c hj => fb j _ (map_get hj)) rfl (by kernel_rfl) (by kernel_rfl)
      refine R_index 9 (IntKind.i64.wrap (((w_.route.buses.length : Nat) : Int) + x_v22)) rfl rfl (rfl) rfl (by decide) gr (by rfl) (by rfl) (by rfl) ez (by rfl) ht h2 (by kernel_rfl) fun jg (gs : Kn 102 (K93e8 g k av aw x_v22 az bc be br bx w_) ((tP 94 5 0) :: (tI 93 (IntKind.i64.wrap (((w_.route.buses.length : Nat) : Int) + x_v22))) :: (tS 87 o t_.legs.length p) :: (K93m15 af x_v21 ah bb x84 bd x_v22 w_ e f)) jg) => ?_
      refine Rk 10 2 ((tA 96 [.slice bh x94.length bi, .int .i64 0]) :: (K93m15 af x_v21 ah bb x84 bd x_v22 w_ e f)) gs ej fun kq gu => ?_
      refine wl fun K hK => ?_
      refine wS 158 2 [.slice bh x94.length bi, .int .i64 0] gu ej fun co jh js (gv : Kn 102 (K93e8 g k av aw x_v22 az bc be br bx w_) ((tS 97 co 1 1) :: (tA 96 [.slice bh x94.length bi, .int .i64 0]) :: (K93m15 af x_v21 ah bb x84 bd x_v22 w_ e f)) jh) (ek : Mem ⟨w, h, noX⟩ a0 (K93e8 g k av aw x_v22 az bc be br bx w_) [⟨(K93c10 ae w_ ag b d e f q x s y u z), some 115⟩, ⟨(K93c4 aa t_ ac ab ad o p), some 76⟩, ⟨(K93c1 x69), none⟩, ⟨(K93c1 x69), some 110⟩, ⟨[.bool x75], none⟩, ⟨[.slice bh x94.length bi], none⟩] [⟨bb, x84.length, bd, 153, 3, (bf ++ ([.int .i64 x69.stop, .int .i64 x69.tm, .int .i64 (-1)] : List Value)), 0⟩, ⟨af, x_v21.length, ah, 158, 2, bg, 0⟩, ⟨bz, 1, 1, 153, 3, ([.int .i64 x69.stop, .int .i64 x69.tm, .int .i64 (-1)] : List Value), 0⟩, ⟨co, 1, 1, 158, 2, ([.slice bh x94.length bi, .int .i64 0] : List Value), 0⟩] js) => ?_
      have c8 : Cells a0 ([(Times.mk x94 0)] : List Times) ([.slice bh x94.length bi, .int .i64 0] : List Value) := ⟨_, _, rfl, ((rep_pair (rep_slice h5) rep_int) : rep a0 ((Times.mk x94 0) : Times) _), rfl⟩
      refine hK _ _ ?_
      obtain ⟨x98, ex98, a1⟩ := bnd a1
      obtain ⟨ds, hd⟩ := app_some ex98
      refine wl fun K hK => ?_
      refine wp_append 1 32 1 _ (x98.length) _ ([.slice bh x94.length bi, .int .i64 0] : List Value) gv ek rfl rfl (by decide) rfl (by rfl) (by kernel_rfl) (by rfl) (by rfl) (Cells.len c8) (ek.rowCell (i := 3) rfl) c8.one (by rw [ds]; simp) (by rw [ds]; exact hd) (by decide) fun b6 ca d5 ji jt fl (gx : Kn 102 (K93e8 g k av aw x_v22 az bc be br bx w_) ((tS 98 b6 x98.length ca) :: (tS 97 co 1 1) :: (tA 96 [.slice bh x94.length bi, .int .i64 0]) :: (K93m15 af x_v21 ah bb x84 bd x_v22 w_ e f)) ji) (di : Mem ⟨w, h, noX⟩ a0 (K93e8 g k av aw x_v22 az bc be br bx w_) [⟨(K93c10 ae w_ ag b d e f q x s y u z), some 115⟩, ⟨(K93c4 aa t_ ac ab ad o p), some 76⟩, ⟨(K93c1 x69), none⟩, ⟨(K93c1 x69), some 110⟩, ⟨[.bool x75], none⟩, ⟨[.slice bh x94.length bi], none⟩] [⟨bb, x84.length, bd, 153, 3, (bf ++ ([.int .i64 x69.stop, .int .i64 x69.tm, .int .i64 (-1)] : List Value)), 0⟩, ⟨b6, x98.length, ca, 158, 2, (bg ++ ([.slice bh x94.length bi, .int .i64 0] : List Value)), d5⟩, ⟨bz, 1, 1, 153, 3, ([.int .i64 x69.stop, .int .i64 x69.tm, .int .i64 (-1)] : List Value), 0⟩, ⟨co, 1, 1, 158, 2, ([.slice bh x94.length bi, .int .i64 0] : List Value), 0⟩] jt) => ?_
      have fc : Cells a0 x98 (bg ++ ([.slice bh x94.length bi, .int .i64 0] : List Value)) := by rw [ds]; exact Cells.append c4 c8
      obtain rfl : d5 = 0 := Nat.le_zero.1 fl
      refine hK _ _ ?_
      refine Rk 14 1 [(tS 5 b6 x98.length ca), (tS 4 bb x84.length bd), (tI 66 x_v22), (tI 65 ((w_.route.spares.length : Nat) : Int)), (tS 64 e w_.route.spares.length f), (tP 3 1 0), (tP 2 0 0)] gx di fun kr gy => ?_
      refine wf (wp_region_from (Rk 0 2 [(tI 66 (IntKind.i64.wrap (x_v22 + 1))), (tS 5 b6 x98.length ca), (tS 4 bb x84.length bd), (tI 65 ((w_.route.spares.length : Nat) : Int)), (tS 64 e w_.route.spares.length f), (tP 3 1 0), (tP 2 0 0)] gy di fun ks gz => ?_))
      refine wf ?_
      exact Exists.intro cu ⟨Nat.lt_succ_self _, Exists.intro x84 ⟨x98, (IntKind.i64.wrap (x_v22 + 1)), bb, bd, (bf ++ ([.int .i64 x69.stop, .int .i64 x69.tm, .int .i64 (-1)] : List Value)), b6, ca, (bg ++ ([.slice bh x94.length bi, .int .i64 0] : List Value)), _, _, rfl, ((gz.keep [66, 65, 64, 5, 4, 3, 2] (by rfl)).cut 2 (by kernel_rfl)), ((di.cutRw 2).cutPl 2 (by kernel_rfl)), b3, fa, fc, a1⟩⟩
     ·
      rw [cz, cond_false] at a1
      refine wp_skip (wp_region_from (Rk 0 2 ((tI 66 (IntKind.i64.wrap (x_v22 + 1))) :: (K93m11 w_ e f af x_v21 ah an x_v20 ao)) da cf fun kt g0 => ?_))
      refine wf ?_
      exact Exists.intro cu ⟨Nat.lt_succ_self _, Exists.intro x_v20 ⟨x_v21, (IntKind.i64.wrap (x_v22 + 1)), an, ao, bf, af, ah, bg, _, _, rfl, ((g0.keep [66, 65, 64, 5, 4, 3, 2] (by rfl)).cut 2 (by kernel_rfl)), (cf.cutPl 2 (by kernel_rfl)), b3, c3, c4, a1⟩⟩
    ·
     rw [cy, cond_false] at a1
     refine wp_exit ?_
     obtain rfl := Option.some.inj a1
     exact Exists.intro an ⟨ao, bf, af, ah, bg, _, _, rfl, c9.kp, cq, b3, c3, c4⟩
  ·
   rintro _ er ⟨bo, bs, b2, bp, bt, b4, du, cd, rfl, g1, dk, j5, c5, c6⟩
   refine wp_seq (wp_region_from (Rk 0 4 [(tS 5 bp ba.2.length bt), (tS 4 bo ba.1.length bs)] g1 dk fun ku g2 => ?_))
   refine wf (wp_ret ?_)
   obtain ⟨d6, ea, h7, cr⟩ := dk.settle (i := 0) rfl
   replace c5 := c5.mono ea
   replace cr : Mem ⟨w, h, noX⟩ d6 [(g, 0), (k, 0)] [⟨(K93c10 ae w_ ag b d e f q x s y u z), some 115⟩, ⟨(K93c4 aa t_ ac ab ad o p), some 76⟩] [⟨bo, ba.1.length, bs, 153, 3, b2, (b2 : List Value).length⟩, ⟨bp, ba.2.length, bt, 158, 2, b4, 0⟩] er := cr
   have dm : RepS d6 bo bs ba.1 := ⟨_, c5, h7, dk.rowCap (i := 0) rfl⟩
   obtain ⟨d7, eb, h8, dl⟩ := cr.settle (i := 1) rfl
   replace dm := dm.mono eb
   replace c6 := c6.mono (Heap.le_trans ea eb)
   replace dl : Mem ⟨w, h, noX⟩ d7 [(g, 0), (k, 0)] [⟨(K93c10 ae w_ ag b d e f q x s y u z), some 115⟩, ⟨(K93c4 aa t_ ac ab ad o p), some 76⟩] [⟨bo, ba.1.length, bs, 153, 3, b2, (b2 : List Value).length⟩, ⟨bp, ba.2.length, bt, 158, 2, b4, (b4 : List Value).length⟩] er := dl
   have h6 : RepS d7 bp bt ba.2 := ⟨_, c6, h8, cr.rowCap (i := 1) rfl⟩
   obtain rfl := Option.some.inj H
   exact rt (.tup [.c (.slice bo ba.1.length bs), .c (.slice bp ba.2.length bt)]) g2 dl ⟨_, _, rfl, ⟨_, _, rfl, dm⟩, ⟨_, _, rfl, h6⟩⟩
end Go.Proofs.Ytokchpjijlebiaa
