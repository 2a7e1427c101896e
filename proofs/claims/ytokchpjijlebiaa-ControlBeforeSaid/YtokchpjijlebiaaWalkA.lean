/- Each call computes its plain function: printed by dec.py. -/
import Derived.Test.YtokchpjijlebiaaProg
import Derived.Test.YtokchpjijlebiaaPure
set_option linter.all false
namespace Go.Proofs.Ytokchpjijlebiaa
open Go Go.RowKit
open Rep (rep)
open KRep (kv)
open VRep (rv)
set_option maxRecDepth 100000 in
set_option maxHeartbeats 4000000 in
theorem ref_In_ok (n : Nat) {h : Heap} {w : World} (hh : Has h w) (n_ : Int) (low : Int) (high : Int) {r : Bool} (H : ref_In n n_ low high = some r) :
  Calls Try.prog 37 #[.int .i64 n_, .int .i64 low, .int .i64 high] w (Ret (fun h v => v = .bool r) h w) := by
 refine enter 15 [.c (.int .i64 n_), .c (.int .i64 low), .c (.int .i64 high)] Try.func37 rfl rfl rfl rfl fun t hk => ?_
 have hm := Mem.begin h w hh
 unfold ref_In at H
 refine wp_seq (wp_region_from (R_runk 0 1 [0, 1, 2] [(tI 0 n_), (tI 1 low), (tI 2 high)] hk hm.plOk (by kernel_rfl) fun k f => ?_))
 refine wpFrom_end (by decide) (wp_seq (wp_region_from (R_runk 0 4 [10, 0, 2] [(tB 10 (decide (n_ ≥ low))), (tI 0 n_), (tI 2 high)] f hm.plOk (by kernel_rfl) fun d b => ?_)))
 rcases Bool.eq_false_or_eq_true (decide (n_ ≥ low)) with a | a
 ·
  rw [a, cond_true] at H
  have g : Kn 15 [] [(tB 10 true), (tI 0 n_), (tI 2 high)] d := (b.setB 10 true (by rfl) a).keep [10, 0, 2] (by rfl)
  refine R_runk 4 5 [6] [(tB 6 (decide (n_ ≤ high)))] g hm.plOk (by kernel_rfl) fun m i => ?_
  refine wpFrom_end (by decide) (wp_ret ?_)
  obtain rfl := Option.some.inj H
  exact ret_ok (.one (.c (.bool (decide (n_ ≤ high))))) i hm (by kernel_rfl) rfl
 ·
  rw [a, cond_false] at H
  have j : Kn 15 [] [(tB 10 false), (tI 0 n_), (tI 2 high)] d := (b.setB 10 false (by rfl) a).keep [10, 0, 2] (by rfl)
  refine R_runk 4 5 [6] [(tB 6 false)] j hm.plOk (by kernel_rfl) fun l e => ?_
  refine wpFrom_end (by decide) (wp_ret ?_)
  obtain rfl := Option.some.inj H
  exact ret_ok (.one (.c (.bool false))) e hm (by kernel_rfl) rfl

abbrev K19c1 (a : Option Addr) (r_ : Route) (e : Nat) (b : Option Addr) (f : Nat) (d : Option Addr) (g : Nat) : List SC := [.slice a r_.legs.length e, .int .i64 r_.turn.lo, .int .i64 r_.turn.hi, .slice b r_.buses.length f, .slice d r_.spares.length g, .int .i64 r_.unit, .int .i64 r_.gap, .int .i64 r_.fr, .int .i64 r_.to_]
set_option maxRecDepth 100000 in
set_option maxHeartbeats 4000000 in
theorem ref_Stops_ok (n : Nat) {h : Heap} {w : World} (hh : Has h w) (r_ : Route) {cs_r_ : List Value} (hx_r_ : rep h r_ cs_r_) {r : Int} (H : ref_Stops n r_ = some r) :
  Calls Try.prog 19 #[.agg cs_r_.toArray] w (Ret (fun h v => v = .int .i64 r) h w) := by
 obtain ⟨_, _, rfl, ⟨a, e, rfl, q⟩, ⟨_, _, rfl, ⟨_, _, rfl, rfl, rfl⟩, ⟨_, _, rfl, ⟨b, f, rfl, s⟩, ⟨_, _, rfl, ⟨d, g, rfl, u⟩, ⟨_, _, rfl, rfl, ⟨_, _, rfl, rfl, ⟨_, _, rfl, rfl, rfl⟩⟩⟩⟩⟩⟩⟩ := hx_r_
 refine enter 7 [.agg (K19c1 a r_ e b f d g)] Try.func19 rfl rfl rfl rfl fun t hk => ?_
 have hm := Mem.begin h w hh
 unfold ref_Stops at H
 refine wp_seq (wp_region_from (wpFrom_loud _ rfl (rfl) fun K hK => ?_))
 refine wp_box (.agg (K19c1 a r_ e b f d g)) hk hm rfl rfl (by decide) (by kernel_rfl) (by kernel_rfl) (by kernel_rfl) fun j o p (k : Kn 7 [(j, 0)] [(tP 1 0 0), (tA 0 (K19c1 a r_ e b f d g))] o) (i : Mem ⟨w, h, noX⟩ h [(j, 0)] [⟨(K19c1 a r_ e b f d g), some 28⟩] [] p) => hK _ _ ?_
 refine R_runk 1 1 [1] [(tP 1 0 0)] k i.plOk (by kernel_rfl) fun x l => ?_
 refine wpFrom_end (by decide) (wp_seq (wp_region_from (R_runk 0 5 [2] [(tI 2 (IntKind.i64.wrap (((r_.legs.length : Nat) : Int) + 1)))] l i.plOk (by kernel_rfl) fun y m => ?_)))
 refine wpFrom_end (by decide) (wp_ret ?_)
 obtain rfl := Option.some.inj H
 exact ret_ok (.one (.c (.int .i64 (IntKind.i64.wrap (((r_.legs.length : Nat) : Int) + 1))))) m i (by kernel_rfl) rfl

abbrev K30c1 (a : Option Addr) (r_ : Route) (e : Nat) (b : Option Addr) (f : Nat) (d : Option Addr) (g : Nat) : List SC := [.slice a r_.legs.length e, .int .i64 r_.turn.lo, .int .i64 r_.turn.hi, .slice b r_.buses.length f, .slice d r_.spares.length g, .int .i64 r_.unit, .int .i64 r_.gap, .int .i64 r_.fr, .int .i64 r_.to_]
set_option maxRecDepth 100000 in
set_option maxHeartbeats 4000000 in
theorem ref_Places_ok (n : Nat) {h : Heap} {w : World} (hh : Has h w) (r_ : Route) {cs_r_ : List Value} (hx_r_ : rep h r_ cs_r_) {r : Int} (H : ref_Places n r_ = some r) :
  Calls Try.prog 30 #[.agg cs_r_.toArray] w (Ret (fun h v => v = .int .i64 r) h w) := by
 obtain ⟨_, _, rfl, ⟨a, e, rfl, q⟩, ⟨_, _, rfl, ⟨_, _, rfl, rfl, rfl⟩, ⟨_, _, rfl, ⟨b, f, rfl, s⟩, ⟨_, _, rfl, ⟨d, g, rfl, u⟩, ⟨_, _, rfl, rfl, ⟨_, _, rfl, rfl, ⟨_, _, rfl, rfl, rfl⟩⟩⟩⟩⟩⟩⟩ := hx_r_
 refine enter 8 [.agg (K30c1 a r_ e b f d g)] Try.func30 rfl rfl rfl rfl fun t hk => ?_
 have hm := Mem.begin h w hh
 unfold ref_Places at H
 refine wp_seq (wp_region_from (wpFrom_loud _ rfl (rfl) fun K hK => ?_))
 refine wp_box (.agg (K30c1 a r_ e b f d g)) hk hm rfl rfl (by decide) (by kernel_rfl) (by kernel_rfl) (by kernel_rfl) fun j o p (k : Kn 8 [(j, 0)] [(tP 1 0 0), (tA 0 (K30c1 a r_ e b f d g))] o) (i : Mem ⟨w, h, noX⟩ h [(j, 0)] [⟨(K30c1 a r_ e b f d g), some 28⟩] [] p) => hK _ _ ?_
 refine R_runk 1 1 [1] [(tP 1 0 0)] k i.plOk (by kernel_rfl) fun x l => ?_
 refine wpFrom_end (by decide) (wp_seq (wp_region_from (R_runk 0 6 [2] [(tI 2 (IntKind.i64.wrap (Int.tdiv (IntKind.i64.wrap (((r_.legs.length : Nat) : Int) + 1)) 2)))] l i.plOk (by kernel_rfl) fun y m => ?_)))
 refine wpFrom_end (by decide) (wp_ret ?_)
 obtain rfl := Option.some.inj H
 exact ret_ok (.one (.c (.int .i64 (IntKind.i64.wrap (Int.tdiv (IntKind.i64.wrap (((r_.legs.length : Nat) : Int) + 1)) 2))))) m i (by kernel_rfl) rfl

set_option maxRecDepth 100000 in
set_option maxHeartbeats 4000000 in
theorem ref_span_ok (n : Nat) {h : Heap} {w : World} (hh : Has h w) (r_ : Rg) {cs_r_ : List Value} (hx_r_ : rep h r_ cs_r_) (most : Int) {r : Bool} (H : ref_span n r_ most = some r) :
  Calls Try.prog 60 #[.agg cs_r_.toArray, .int .i64 most] w (Ret (fun h v => v = .bool r) h w) := by
 obtain ⟨_, _, rfl, rfl, rfl⟩ := hx_r_
 refine enter 16 [.agg [.int .i64 r_.lo, .int .i64 r_.hi], .c (.int .i64 most)] Try.func60 rfl rfl rfl rfl fun t hk => ?_
 have hm := Mem.begin h w hh
 unfold ref_span at H
 refine wp_seq (wp_region_from (wpFrom_loud _ rfl (rfl) fun K hK => ?_))
 refine wp_box (.agg [.int .i64 r_.lo, .int .i64 r_.hi]) hk hm rfl rfl (by decide) (by kernel_rfl) (by kernel_rfl) (by kernel_rfl) fun a x y (p : Kn 16 [(a, 0)] [(tP 2 0 0), (tA 0 [.int .i64 r_.lo, .int .i64 r_.hi]), (tI 1 most)] x) (e : Mem ⟨w, h, noX⟩ h [(a, 0)] [⟨[.int .i64 r_.lo, .int .i64 r_.hi], some 24⟩] [] y) => hK _ _ ?_
 refine R_runk 1 1 [2, 1] [(tP 2 0 0), (tI 1 most)] p e.plOk (by kernel_rfl) fun ad q => ?_
 refine wpFrom_end (by decide) (wp_seq (wp_region_from (R_runk 0 4 [8, 6, 2, 1] [(tI 8 r_.hi), (tI 6 r_.lo), (tP 2 0 0), (tI 1 most)] q e.plOk (by kernel_rfl) fun ae s => ?_)))
 obtain ⟨x9, ex9, H⟩ := bnd H
 refine wpFrom_loud _ rfl (rfl) fun K hK => ?_
 refine wp_call [.c (.int .i64 r_.lo), .c (.int .i64 0), .c (.int .i64 r_.hi)] _ s e rfl rfl (by decide) (by rfl) rfl (fun _ _ => by kernel_rfl) (ref_In_ok n e.has r_.lo 0 r_.hi ex9) fun af z ag i aa d => ?_
 obtain rfl := i
 refine ⟨.one (.c (.bool x9)), rfl, fun u (j : Kn 16 [(a, 0)] [(tB 9 x9), (tI 8 r_.hi), (tI 6 r_.lo), (tP 2 0 0), (tI 1 most)] u) => hK _ _ ?_⟩
 refine R_runk 5 1 [10, 2, 1] [(tB 10 x9), (tP 2 0 0), (tI 1 most)] j d.plOk (by kernel_rfl) fun g f => ?_
 rcases Bool.eq_false_or_eq_true (x9) with b | b
 ·
  rw [b, cond_true] at H
  have k : Kn 16 [(a, 0)] [(tB 10 true), (tP 2 0 0), (tI 1 most)] g := (f.setB 10 true (by rfl) b).keep [10, 2, 1] (by rfl)
  refine R_runk 6 6 [4] [(tB 4 (decide (r_.hi ≤ most)))] k d.plOk (by kernel_rfl) fun ab l => ?_
  refine wpFrom_end (by decide) (wp_ret ?_)
  obtain rfl := Option.some.inj H
  exact ret_ok (.one (.c (.bool (decide (r_.hi ≤ most))))) l d (by kernel_rfl) rfl
 ·
  rw [b, cond_false] at H
  have m : Kn 16 [(a, 0)] [(tB 10 false), (tP 2 0 0), (tI 1 most)] g := (f.setB 10 false (by rfl) b).keep [10, 2, 1] (by rfl)
  refine R_runk 6 6 [4] [(tB 4 false)] m d.plOk (by kernel_rfl) fun ac o => ?_
  refine wpFrom_end (by decide) (wp_ret ?_)
  obtain rfl := Option.some.inj H
  exact ret_ok (.one (.c (.bool false))) o d (by kernel_rfl) rfl

set_option maxRecDepth 100000 in
set_option maxHeartbeats 4000000 in
theorem law_to_ok (n : Nat) {h : Heap} {w : World} (hh : Has h w) (r_ : Rg) {cs_r_ : List Value} (hx_r_ : rep h r_ cs_r_) {r : Rg} (H : law_to n r_ = some r) :
  Calls Try.prog 55 #[.agg cs_r_.toArray] w (Ret (fun h v => ∃ cs, v = .agg cs.toArray ∧ rep h r cs) h w) := by
 obtain ⟨_, _, rfl, rfl, rfl⟩ := hx_r_
 refine enter 8 [.agg [.int .i64 r_.lo, .int .i64 r_.hi]] Try.func55 rfl rfl rfl rfl fun t hk => ?_
 have hm := Mem.begin h w hh
 unfold law_to at H
 refine wp_seq (wp_region_from (wpFrom_loud _ rfl (rfl) fun K hK => ?_))
 refine wp_box (.agg [.int .i64 r_.lo, .int .i64 r_.hi]) hk hm rfl rfl (by decide) (by kernel_rfl) (by kernel_rfl) (by kernel_rfl) fun a p s (j : Kn 8 [(a, 0)] [(tP 1 0 0), (tA 0 [.int .i64 r_.lo, .int .i64 r_.hi])] p) (m : Mem ⟨w, h, noX⟩ h [(a, 0)] [⟨[.int .i64 r_.lo, .int .i64 r_.hi], some 24⟩] [] s) => hK _ _ ?_
 refine wpFrom_loud _ rfl (rfl) fun K hK => ?_
 refine wp_alloc [.int .i64 0, .int .i64 0] j m rfl rfl (by decide) (by kernel_rfl) (by kernel_rfl) (by kernel_rfl) fun b d u (k : Kn 8 [(a, 0), (b, 0)] [(tP 2 1 0), (tP 1 0 0), (tA 0 [.int .i64 r_.lo, .int .i64 r_.hi])] d) (c : Mem ⟨w, h, noX⟩ h [(a, 0), (b, 0)] [⟨[.int .i64 r_.lo, .int .i64 r_.hi], some 24⟩, ⟨[.int .i64 0, .int .i64 0], some 39⟩] [] u) => hK _ _ ?_
 have e : Kn 8 [(a, 0), (b, 0)] [(tP 2 1 0), (tP 1 0 0)] d := k.keep [2, 1] (by rfl)
 refine wpFrom_end (by decide) (wp_seq (wp_region_from (R_runk 0 5 [7, 2] [(tA 7 [.int .i64 r_.lo, .int .i64 r_.hi]), (tP 2 1 0)] e c.plOk (by kernel_rfl) fun o f => ?_)))
 refine wpFrom_loud _ rfl (rfl) fun K hK => ?_
 refine wp_store 1 0 (.agg [.int .i64 r_.lo, .int .i64 r_.hi]) [.int .i64 r_.lo, .int .i64 r_.hi] f c rfl rfl (by rfl) (by rfl) (by rfl) (by kernel_rfl) (by kernel_rfl) (by rfl) fun q g (l : Mem ⟨w, h, noX⟩ h [(a, 0), (b, 0)] [⟨[.int .i64 r_.lo, .int .i64 r_.hi], some 24⟩, ⟨[.int .i64 r_.lo, .int .i64 r_.hi], some 39⟩] [] q) => hK _ _ ?_
 have i : Kn 8 [(a, 0), (b, 0)] [(tP 2 1 0)] o := g.keep [2] (by rfl)
 refine wpFrom_end (by decide) (wp_ret ?_)
 obtain rfl := Option.some.inj H
 exact ret_ok (.one (.agg [.int .i64 r_.lo, .int .i64 r_.hi])) i l (by kernel_rfl) ⟨_, rfl, ((rep_pair rep_int rep_int) : rep h (r_ : Rg) _)⟩

abbrev K17c1 (x82 : Bus) : List SC := [.int .i64 x82.stop, .int .i64 x82.tm.lo, .int .i64 x82.tm.hi]
abbrev K17c2 (l : Option Addr) (r_ : Route) (m : Nat) (f : Option Addr) (i : Nat) (g : Option Addr) (k : Nat) : List SC := [.slice l r_.legs.length m, .int .i64 r_.turn.lo, .int .i64 r_.turn.hi, .slice f r_.buses.length i, .slice g r_.spares.length k, .int .i64 r_.unit, .int .i64 r_.gap, .int .i64 r_.fr, .int .i64 r_.to_]
abbrev K17m3 (x_v20 : Int) : TM := [(tI 4 x_v20), (tP 1 0 0)]
abbrev K17m4 (x_v30 : Int) : TM := [(tI 5 x_v30), (tP 1 0 0)]
set_option maxRecDepth 100000 in
set_option maxHeartbeats 4000000 in
theorem ref_Fault_ok (n : Nat) {h : Heap} {w : World} (hh : Has h w) (r_ : Route) {cs_r_ : List Value} (hx_r_ : rep h r_ cs_r_) {r : Int} (H : ref_Fault n r_ = some r) :
  Calls Try.prog 17 #[.agg cs_r_.toArray] w (Ret (fun h v => v = .int .i64 r) h w) := by
 obtain ⟨_, _, rfl, ⟨l, m, rfl, e⟩, ⟨_, _, rfl, ⟨_, _, rfl, rfl, rfl⟩, ⟨_, _, rfl, ⟨f, i, rfl, b⟩, ⟨_, _, rfl, ⟨g, k, rfl, d⟩, ⟨_, _, rfl, rfl, ⟨_, _, rfl, rfl, ⟨_, _, rfl, rfl, rfl⟩⟩⟩⟩⟩⟩⟩ := hx_r_
 refine enter 128 [.agg (K17c2 l r_ m f i g k)] Try.func17 rfl rfl rfl rfl fun t hk => ?_
 have hm := Mem.begin h w hh
 unfold ref_Fault at H
 refine wp_seq (wp_region_from (wpFrom_loud _ rfl (rfl) fun K hK => ?_))
 refine wp_box (.agg (K17c2 l r_ m f i g k)) hk hm rfl rfl (by decide) (by kernel_rfl) (by kernel_rfl) (by kernel_rfl) fun a hr h8 (e2 : Kn 128 [(a, 0)] [(tP 1 0 0), (tA 0 (K17c2 l r_ m f i g k))] hr) (ai : Mem ⟨w, h, noX⟩ h [(a, 0)] [⟨(K17c2 l r_ m f i g k), some 28⟩] [] h8) => hK _ _ ?_
 refine R_runk 1 1 [1] [(tP 1 0 0)] e2 ai.plOk (by kernel_rfl) fun i4 e6 => ?_
 refine wpFrom_end (by decide) (wp_seq (wp_seq ?_))
 obtain ⟨dq, be, H⟩ := bnd H
 refine wp_mid' (fun a' w' => ∃ (cr : Array Value) (au : Heap), a' = ⟨cr, []⟩ ∧ Kn 128 [(a, 0)] [(tP 1 0 0), (tB 15 dq)] cr ∧ Mem ⟨w, h, noX⟩ au [(a, 0)] [⟨(K17c2 l r_ m f i g k), some 28⟩] [] w' ∧ Heap.le h au) ?_ ?_
 ·
  refine wp_region_from (R_runk 0 5 [10, 1] [(tB 10 (decide (((r_.buses.length : Nat) : Int) > 4))), (tP 1 0 0)] e6 ai.plOk (by kernel_rfl) fun dy c4 => ?_)
  rcases Bool.eq_false_or_eq_true (decide (((r_.buses.length : Nat) : Int) > 4)) with a0 | a0
  ·
   rw [a0, cond_true] at be
   have fj : Kn 128 [(a, 0)] [(tB 10 true), (tP 1 0 0)] dy := (c4.setB 10 true (by rfl) a0).keep [10, 1] (by rfl)
   refine R_runk 5 5 [15, 1] [(tB 15 true), (tP 1 0 0)] fj ai.plOk (by kernel_rfl) fun jf fp => ?_
   refine wpFrom_end (by decide) ?_
   obtain rfl := Option.some.inj be
   exact Exists.intro _ ⟨_, rfl, (fp.keep [1, 15] (by rfl)), ai, (Heap.le_refl _)⟩
  ·
   rw [a0, cond_false] at be
   have fq : Kn 128 [(a, 0)] [(tB 10 false), (tP 1 0 0)] dy := (c4.setB 10 false (by rfl) a0).keep [10, 1] (by rfl)
   refine R_runk 5 5 [15, 1] [(tB 15 (decide (((r_.spares.length : Nat) : Int) > 2))), (tP 1 0 0)] fq ai.plOk (by kernel_rfl) fun jk fw => ?_
   refine wpFrom_end (by decide) ?_
   obtain rfl := Option.some.inj be
   exact Exists.intro _ ⟨_, rfl, (fw.keep [1, 15] (by rfl)), ai, (Heap.le_refl _)⟩
 ·
  rintro _ kr ⟨cr, au, rfl, b9, u, cf⟩
  replace e := e.mono cf
  replace b := b.mono cf
  replace d := d.mono cf
  refine wp_cond_sv (dq) b9 (by kernel_rfl) (fun b2 => ?_) (fun b2 => ?_)
  ·
   rw [b2, cond_true] at H
   refine wp_seq (wp_region_from (R_runk 0 1 [2] [(tI 2 3)] b9 u.plOk (by kernel_rfl) fun jt f9 => ?_))
   refine wpFrom_end (by decide) (wp_ret ?_)
   obtain rfl := Option.some.inj H
   exact ret_ok (.one (.c (.int .i64 3))) f9 u (by kernel_rfl) rfl
  ·
   rw [b2, cond_false] at H
   refine wp_skip (wp_seq (wp_seq ?_))
   obtain ⟨dt, o, H⟩ := bnd H
   refine wp_mid' (fun a' w' => ∃ (cx : Array Value) (ay : Heap), a' = ⟨cx, []⟩ ∧ Kn 128 [(a, 0)] [(tP 1 0 0), (tB 57 dt)] cx ∧ Mem ⟨w, h, noX⟩ ay [(a, 0)] [⟨(K17c2 l r_ m f i g k), some 28⟩] [] w' ∧ Heap.le au ay) ?_ ?_
   ·
    refine wp_region_from (R_runk 0 6 [21, 1] [(tB 21 ((Int.tmod ((r_.legs.length : Nat) : Int) 2) == 0)), (tP 1 0 0)] b9 u.plOk (by kernel_rfl) fun d1 dd => ?_)
    rcases Bool.eq_false_or_eq_true (((Int.tmod ((r_.legs.length : Nat) : Int) 2) == 0)) with a3 | a3
    ·
     rw [a3, cond_true] at o
     have gh : Kn 128 [(a, 0)] [(tB 21 true), (tP 1 0 0)] d1 := (dd.setB 21 true (by rfl) a3).keep [21, 1] (by rfl)
     refine R_runk 6 36 [57, 1] [(tB 57 true), (tP 1 0 0)] gh u.plOk (by kernel_rfl) fun j2 gi => ?_
     refine wpFrom_end (by decide) ?_
     obtain rfl := Option.some.inj o
     exact Exists.intro _ ⟨_, rfl, (gi.keep [1, 57] (by rfl)), u, (Heap.le_refl _)⟩
    ·
     rw [a3, cond_false] at o
     have gj : Kn 128 [(a, 0)] [(tB 21 false), (tP 1 0 0)] d1 := (dd.setB 21 false (by rfl) a3).keep [21, 1] (by rfl)
     refine R_runk 6 6 [27, 1] [(tB 27 (decide (((r_.legs.length : Nat) : Int) > 7))), (tP 1 0 0)] gj u.plOk (by kernel_rfl) fun d2 de => ?_
     rcases Bool.eq_false_or_eq_true (decide (((r_.legs.length : Nat) : Int) > 7)) with a4 | a4
     ·
      rw [a4, cond_true] at o
      have gk : Kn 128 [(a, 0)] [(tB 27 true), (tP 1 0 0)] d2 := (de.setB 27 true (by rfl) a4).keep [27, 1] (by rfl)
      refine R_runk 12 30 [57, 1] [(tB 57 true), (tP 1 0 0)] gk u.plOk (by kernel_rfl) fun j3 gl => ?_
      refine wpFrom_end (by decide) ?_
      obtain rfl := Option.some.inj o
      exact Exists.intro _ ⟨_, rfl, (gl.keep [1, 57] (by rfl)), u, (Heap.le_refl _)⟩
     ·
      rw [a4, cond_false] at o
      have gm : Kn 128 [(a, 0)] [(tB 27 false), (tP 1 0 0)] d2 := (de.setB 27 false (by rfl) a4).keep [27, 1] (by rfl)
      refine R_runk 12 2 [29, 27, 1] [(tA 29 [.int .i64 r_.turn.lo, .int .i64 r_.turn.hi]), (tB 27 false), (tP 1 0 0)] gm u.plOk (by kernel_rfl) fun j4 df => ?_
      obtain ⟨x30, ex30, o⟩ := bnd o
      refine wpFrom_loud _ rfl (wantedS_sound df (by kernel_rfl)) fun K hK => ?_
      refine wp_call [.agg [.int .i64 r_.turn.lo, .int .i64 r_.turn.hi], .c (.int .i64 300)] _ df u rfl rfl (by decide) (by rfl) rfl (fun _ _ => by kernel_rfl) (ref_span_ok n u.has r_.turn ((rep_pair rep_int rep_int) : rep au r_.turn _) 300 ex30) fun kh iu kv ee ab al => ?_
      replace e := e.mono ab
      replace b := b.mono ab
      replace d := d.mono ab
      obtain rfl := ee
      refine ⟨.one (.c (.bool x30)), rfl, fun h5 (gn : Kn 128 [(a, 0)] [(tB 30 x30), (tA 29 [.int .i64 r_.turn.lo, .int .i64 r_.turn.hi]), (tB 27 false), (tP 1 0 0)] h5) => hK _ _ ?_⟩
      refine R_runk 15 3 [33, 1] [(tB 33 (!x30)), (tP 1 0 0)] gn al.plOk (by kernel_rfl) fun d3 dg => ?_
      rcases Bool.eq_false_or_eq_true ((!x30)) with a5 | a5
      ·
       rw [a5, cond_true] at o
       have gp : Kn 128 [(a, 0)] [(tB 33 true), (tP 1 0 0)] d3 := (dg.setB 33 true (by rfl) a5).keep [33, 1] (by rfl)
       refine R_runk 18 24 [57, 1] [(tB 57 true), (tP 1 0 0)] gp al.plOk (by kernel_rfl) fun j5 gq => ?_
       refine wpFrom_end (by decide) ?_
       obtain rfl := Option.some.inj o
       exact Exists.intro _ ⟨_, rfl, (gq.keep [1, 57] (by rfl)), al, ab⟩
      ·
       rw [a5, cond_false] at o
       have gr : Kn 128 [(a, 0)] [(tB 33 false), (tP 1 0 0)] d3 := (dg.setB 33 false (by rfl) a5).keep [33, 1] (by rfl)
       refine R_runk 18 2 [35, 33, 1] [(tI 35 r_.unit), (tB 33 false), (tP 1 0 0)] gr al.plOk (by kernel_rfl) fun j6 dh => ?_
       obtain ⟨x36, ex36, o⟩ := bnd o
       refine wpFrom_loud _ rfl (wantedS_sound dh (by kernel_rfl)) fun K hK => ?_
       refine wp_call [.c (.int .i64 r_.unit), .c (.int .i64 1), .c (.int .i64 30)] _ dh al rfl rfl (by decide) (by rfl) rfl (fun _ _ => by kernel_rfl) (ref_In_ok n al.has r_.unit 1 30 ex36) fun ki iv kw ef ae am => ?_
       replace e := e.mono ae
       replace b := b.mono ae
       replace d := d.mono ae
       obtain rfl := ef
       refine ⟨.one (.c (.bool x36)), rfl, fun h6 (gs : Kn 128 [(a, 0)] [(tB 36 x36), (tI 35 r_.unit), (tB 33 false), (tP 1 0 0)] h6) => hK _ _ ?_⟩
       refine R_runk 21 3 [39, 1] [(tB 39 (!x36)), (tP 1 0 0)] gs am.plOk (by kernel_rfl) fun d4 di => ?_
       rcases Bool.eq_false_or_eq_true ((!x36)) with a6 | a6
       ·
        rw [a6, cond_true] at o
        have gu : Kn 128 [(a, 0)] [(tB 39 true), (tP 1 0 0)] d4 := (di.setB 39 true (by rfl) a6).keep [39, 1] (by rfl)
        refine R_runk 24 18 [57, 1] [(tB 57 true), (tP 1 0 0)] gu am.plOk (by kernel_rfl) fun j7 gv => ?_
        refine wpFrom_end (by decide) ?_
        obtain rfl := Option.some.inj o
        exact Exists.intro _ ⟨_, rfl, (gv.keep [1, 57] (by rfl)), am, (Heap.le_trans ab ae)⟩
       ·
        rw [a6, cond_false] at o
        have gw : Kn 128 [(a, 0)] [(tB 39 false), (tP 1 0 0)] d4 := (di.setB 39 false (by rfl) a6).keep [39, 1] (by rfl)
        refine R_runk 24 2 [41, 39, 1] [(tI 41 r_.gap), (tB 39 false), (tP 1 0 0)] gw am.plOk (by kernel_rfl) fun j8 dj => ?_
        obtain ⟨x42, ex42, o⟩ := bnd o
        refine wpFrom_loud _ rfl (wantedS_sound dj (by kernel_rfl)) fun K hK => ?_
        refine wp_call [.c (.int .i64 r_.gap), .c (.int .i64 0), .c (.int .i64 2000)] _ dj am rfl rfl (by decide) (by rfl) rfl (fun _ _ => by kernel_rfl) (ref_In_ok n am.has r_.gap 0 2000 ex42) fun kj iw kx eg ah an => ?_
        replace e := e.mono ah
        replace b := b.mono ah
        replace d := d.mono ah
        obtain rfl := eg
        refine ⟨.one (.c (.bool x42)), rfl, fun h7 (gx : Kn 128 [(a, 0)] [(tB 42 x42), (tI 41 r_.gap), (tB 39 false), (tP 1 0 0)] h7) => hK _ _ ?_⟩
        refine R_runk 27 3 [45, 1] [(tB 45 (!x42)), (tP 1 0 0)] gx an.plOk (by kernel_rfl) fun d5 dk => ?_
        rcases Bool.eq_false_or_eq_true ((!x42)) with a7 | a7
        ·
         rw [a7, cond_true] at o
         have et : Kn 128 [(a, 0)] [(tB 45 true), (tP 1 0 0)] d5 := (dk.setB 45 true (by rfl) a7).keep [45, 1] (by rfl)
         refine R_runk 30 12 [57, 1] [(tB 57 true), (tP 1 0 0)] et an.plOk (by kernel_rfl) fun ix eu => ?_
         refine wpFrom_end (by decide) ?_
         obtain rfl := Option.some.inj o
         exact Exists.intro _ ⟨_, rfl, (eu.keep [1, 57] (by rfl)), an, (Heap.le_trans ab (Heap.le_trans ae ah))⟩
        ·
         rw [a7, cond_false] at o
         have ev : Kn 128 [(a, 0)] [(tB 45 false), (tP 1 0 0)] d5 := (dk.setB 45 false (by rfl) a7).keep [45, 1] (by rfl)
         refine R_runk 30 4 [49, 47, 45, 1] [(tI 49 r_.to_), (tI 47 r_.fr), (tB 45 false), (tP 1 0 0)] ev an.plOk (by kernel_rfl) fun iy c2 => ?_
         obtain ⟨x50, ex50, o⟩ := bnd o
         refine wpFrom_loud _ rfl (wantedS_sound c2 (by kernel_rfl)) fun K hK => ?_
         refine wp_call [.c (.int .i64 r_.fr), .c (.int .i64 0), .c (.int .i64 r_.to_)] _ c2 an rfl rfl (by decide) (by rfl) rfl (fun _ _ => by kernel_rfl) (ref_In_ok n an.has r_.fr 0 r_.to_ ex50) fun j9 il kk d6 a8 bc => ?_
         replace e := e.mono a8
         replace b := b.mono a8
         replace d := d.mono a8
         obtain rfl := d6
         refine ⟨.one (.c (.bool x50)), rfl, fun hs (ew : Kn 128 [(a, 0)] [(tB 50 x50), (tI 49 r_.to_), (tI 47 r_.fr), (tB 45 false), (tP 1 0 0)] hs) => hK _ _ ?_⟩
         refine R_runk 35 3 [53, 1] [(tB 53 (!x50)), (tP 1 0 0)] ew bc.plOk (by kernel_rfl) fun dx c3 => ?_
         rcases Bool.eq_false_or_eq_true ((!x50)) with az | az
         ·
          rw [az, cond_true] at o
          have ex : Kn 128 [(a, 0)] [(tB 53 true), (tP 1 0 0)] dx := (c3.setB 53 true (by rfl) az).keep [53, 1] (by rfl)
          refine R_runk 38 4 [57, 1] [(tB 57 true), (tP 1 0 0)] ex bc.plOk (by kernel_rfl) fun iz ey => ?_
          refine wpFrom_end (by decide) ?_
          obtain rfl := Option.some.inj o
          exact Exists.intro _ ⟨_, rfl, (ey.keep [1, 57] (by rfl)), bc, (Heap.le_trans ab (Heap.le_trans ae (Heap.le_trans ah a8)))⟩
         ·
          rw [az, cond_false] at o
          have ez : Kn 128 [(a, 0)] [(tB 53 false), (tP 1 0 0)] dx := (c3.setB 53 false (by rfl) az).keep [53, 1] (by rfl)
          refine R_runk 38 4 [57, 1] [(tB 57 (decide (r_.to_ > 2000))), (tP 1 0 0)] ez bc.plOk (by kernel_rfl) fun i0 e0 => ?_
          refine wpFrom_end (by decide) ?_
          obtain rfl := Option.some.inj o
          exact Exists.intro _ ⟨_, rfl, (e0.keep [1, 57] (by rfl)), bc, (Heap.le_trans ab (Heap.le_trans ae (Heap.le_trans ah a8)))⟩
   ·
    rintro _ kl ⟨cx, ay, rfl, b4, bm, cc⟩
    replace e := e.mono cc
    replace b := b.mono cc
    replace d := d.mono cc
    refine wp_cond_sv (dt) b4 (by kernel_rfl) (fun bv => ?_) (fun bv => ?_)
    ·
     rw [bv, cond_true] at H
     refine wp_seq (wp_region_from (R_runk 0 1 [2] [(tI 2 1)] b4 bm.plOk (by kernel_rfl) fun i1 e1 => ?_))
     refine wpFrom_end (by decide) (wp_ret ?_)
     obtain rfl := Option.some.inj H
     exact ret_ok (.one (.c (.int .i64 1))) e1 bm (by kernel_rfl) rfl
    ·
     rw [bv, cond_false] at H
     refine wp_skip (wp_seq (wp_seq (wp_region_from (R_runk 0 1 [3, 1] [(tI 3 0), (tP 1 0 0)] b4 bm.plOk (by kernel_rfl) fun i2 e3 => ?_))))
     refine wpFrom_end (by decide) ?_
     obtain ⟨dp, cy, H⟩ := bnd H
     refine wp_mid' (fun a' w' => ∃ (du : Unit) (cp : Array Value) (aq : Heap), a' = ⟨cp, []⟩ ∧ Kn 128 [(a, 0)] [(tP 1 0 0)] cp ∧ Mem ⟨w, h, noX⟩ aq [(a, 0)] [⟨(K17c2 l r_ m f i g k), some 28⟩] [] w' ∧ Heap.le ay aq ∧ dp = .go du) ?_ ?_
     ·
      refine wp_block ?_
      refine wp_loop_n (fun ho a' w' => ∃ (x_v10 : Int) (cq : Array Value) (ar : Heap), a' = ⟨cq, []⟩ ∧ Kn 128 [(a, 0)] [(tI 3 x_v10), (tP 1 0 0)] cq ∧ Mem ⟨w, h, noX⟩ ar [(a, 0)] [⟨(K17c2 l r_ m f i g k), some 28⟩] [] w' ∧ Heap.le ay ar ∧ ref_Fault_l1 ho r_ x_v10 = some dp) n ?_ ?_
      ·
       exact Exists.intro 0 ⟨_, _, rfl, (e3.keep [3, 1] (by rfl)), bm, (Heap.le_refl _), cy⟩
      ·
       rintro bq _ h9 ⟨x_v10, cq, ar, rfl, e4, bn, a9, s⟩
       clear cy
       obtain _ | bq := bq
       ·
        rw [ref_Fault_l1] at s; cases s
       rw [ref_Fault_l1] at s
       replace e := e.mono a9
       replace b := b.mono a9
       replace d := d.mono a9
       refine wp_seq (wp_seq (wp_region_from (R_runk 0 5 [62, 3, 1] [(tB 62 (decide (x_v10 < ((r_.legs.length : Nat) : Int)))), (tI 3 x_v10), (tP 1 0 0)] e4 bn.plOk (by kernel_rfl) fun i3 b5 => ?_)))
       refine wpFrom_end (by decide) (wp_cond_sv (decide (x_v10 < ((r_.legs.length : Nat) : Int))) b5 (by kernel_rfl) (fun bw => ?_) (fun bw => ?_))
       ·
        rw [bw, cond_true] at s
        refine wp_skip (wp_seq (wp_block (wp_seq (wp_region_from (R_runk 0 3 [67, 66, 3, 1] [(tI 67 x_v10), (tS 66 l r_.legs.length m), (tI 3 x_v10), (tP 1 0 0)] b5 bn.plOk (by kernel_rfl) fun i5 e5 => ?_)))))
        obtain ⟨x68, ex68, s⟩ := bnd s
        obtain ⟨gy, g3, he⟩ := idx_some ex68
        obtain ⟨br, cm, ig, ei, g8, en⟩ := e.get (by decide) he
        obtain ⟨_, _, rfl, rfl, rfl⟩ := g8
        have ch : Mem ⟨w, h, noX⟩ ar [(a, 0), (br, cm + (x_v10 : Int).toNat * 2)] [⟨(K17c2 l r_ m f i g k), some 28⟩, ⟨[.int .i64 x68.lo, .int .i64 x68.hi], none⟩] [] h9 := bn.addPlc (cs := [.int .i64 x68.lo, .int .i64 x68.hi]) (fun j c hj => en j _ (map_get hj)) rfl (by kernel_rfl) (by kernel_rfl)
        refine R_index 3 (x_v10) rfl rfl (rfl) rfl (by decide) e5 (by rfl) (by rfl) (by rfl) ei (by rfl) gy g3 (by kernel_rfl) fun ht (e7 : Kn 128 [(a, 0), (br, cm + (x_v10 : Int).toNat * 2)] [(tP 68 1 0), (tI 67 x_v10), (tS 66 l r_.legs.length m), (tI 3 x_v10), (tP 1 0 0)] ht) => ?_
        refine R_runk 4 1 [69, 3, 1] [(tA 69 [.int .i64 x68.lo, .int .i64 x68.hi]), (tI 3 x_v10), (tP 1 0 0)] e7 ch.plOk (by kernel_rfl) fun i6 e8 => ?_
        obtain ⟨x70, ex70, s⟩ := bnd s
        refine wpFrom_loud _ rfl (rfl) fun K hK => ?_
        refine wp_call [.agg [.int .i64 x68.lo, .int .i64 x68.hi], .c (.int .i64 300)] _ e8 ch rfl rfl (by decide) (by rfl) rfl (fun _ _ => by kernel_rfl) (ref_span_ok bq ch.has x68 ((rep_pair rep_int rep_int) : rep ar x68 _) 300 ex70) fun ka im km d7 bf bd => ?_
        replace e := e.mono bf
        replace b := b.mono bf
        replace d := d.mono bf
        obtain rfl := d7
        refine ⟨.one (.c (.bool x70)), rfl, fun hu (e9 : Kn 128 [(a, 0), (br, cm + (x_v10 : Int).toNat * 2)] [(tB 70 x70), (tA 69 [.int .i64 x68.lo, .int .i64 x68.hi]), (tI 3 x_v10), (tP 1 0 0)] hu) => hK _ _ ?_⟩
        refine R_runk 6 1 [71, 3, 1] [(tB 71 (!x70)), (tI 3 x_v10), (tP 1 0 0)] e9 bd.plOk (by kernel_rfl) fun i7 b6 => ?_
        refine wpFrom_end (by decide) (wp_cond_sv ((!x70)) b6 (by kernel_rfl) (fun bx => ?_) (fun bx => ?_))
        ·
         rw [bx, cond_true] at s
         refine wp_seq (wp_region_from (R_runk 0 1 [2] [(tI 2 1)] b6 bd.plOk (by kernel_rfl) fun i8 fa => ?_))
         refine wpFrom_end (by decide) (wp_ret ?_)
         obtain rfl := Option.some.inj s
         obtain rfl := Option.some.inj H
         exact ret_ok (.one (.c (.int .i64 1))) fa bd (by kernel_rfl) rfl
        ·
         rw [bx, cond_false] at s
         refine wp_skip (wp_region_from (R_runk 0 3 [3, 1] [(tI 3 (IntKind.i64.wrap (x_v10 + 1))), (tP 1 0 0)] b6 bd.plOk (by kernel_rfl) fun i9 fb => ?_))
         refine wpFrom_end (by decide) ?_
         exact Exists.intro bq ⟨Nat.lt_succ_self _, Exists.intro (IntKind.i64.wrap (x_v10 + 1)) ⟨_, _, rfl, ((fb.keep [3, 1] (by rfl)).cut 1 (by kernel_rfl)), (bd.cutPl 1 (by kernel_rfl)), (Heap.le_trans a9 bf), s⟩⟩
       ·
        rw [bw, cond_false] at s
        refine wp_exit ?_
        obtain rfl := Option.some.inj s
        exact Exists.intro () ⟨_, _, rfl, (b5.keep [1] (by rfl)), bn, a9, rfl⟩
     ·
      rintro _ kn ⟨du, cp, aq, rfl, fc, dl, cd, rfl⟩
      rw [Ex.bind_go] at H
      replace e := e.mono cd
      replace b := b.mono cd
      replace d := d.mono cd
      refine wp_seq (wp_seq (wp_region_from (R_runk 0 1 [4, 1] [(tI 4 0), (tP 1 0 0)] fc dl.plOk (by kernel_rfl) fun ja fd => ?_)))
      refine wpFrom_end (by decide) ?_
      obtain ⟨dr, cz, H⟩ := bnd H
      refine wp_mid' (fun a' w' => ∃ (dv : Unit) (ct : Array Value) (av : Heap), a' = ⟨ct, []⟩ ∧ Kn 128 [(a, 0)] [(tP 1 0 0)] ct ∧ Mem ⟨w, h, noX⟩ av [(a, 0)] [⟨(K17c2 l r_ m f i g k), some 28⟩] [] w' ∧ Heap.le aq av ∧ dr = .go dv) ?_ ?_
      ·
       refine wp_block ?_
       refine wp_loop_n (fun hp a' w' => ∃ (x_v20 : Int) (cu : Array Value) (aw : Heap), a' = ⟨cu, []⟩ ∧ Kn 128 [(a, 0)] (K17m3 x_v20) cu ∧ Mem ⟨w, h, noX⟩ aw [(a, 0)] [⟨(K17c2 l r_ m f i g k), some 28⟩] [] w' ∧ Heap.le aq aw ∧ ref_Fault_l2 hp r_ x_v20 = some dr) n ?_ ?_
       ·
        exact Exists.intro 0 ⟨_, _, rfl, (fd.keep [4, 1] (by rfl)), dl, (Heap.le_refl _), cz⟩
       ·
        rintro ao _ ia ⟨x_v20, cu, aw, rfl, fe, af, ba, p⟩
        clear cz
        obtain _ | ao := ao
        ·
         rw [ref_Fault_l2] at p; cases p
        rw [ref_Fault_l2] at p
        replace e := e.mono ba
        replace b := b.mono ba
        replace d := d.mono ba
        refine wp_seq (wp_seq (wp_region_from (R_runk 0 5 [76, 4, 1] ((tB 76 (decide (x_v20 < ((r_.buses.length : Nat) : Int)))) :: (K17m3 x_v20)) fe af.plOk (by kernel_rfl) fun jb b7 => ?_)))
        refine wpFrom_end (by decide) (wp_cond_sv (decide (x_v20 < ((r_.buses.length : Nat) : Int))) b7 (by kernel_rfl) (fun bz => ?_) (fun bz => ?_))
        ·
         rw [bz, cond_true] at p
         refine wp_skip (wp_seq (wp_block (wp_seq (wp_region_G (by kernel_rfl) ?_))))
         replace af := af.drew
         refine wpG_of_D [] [(a, 0)] [⟨(K17c2 l r_ m f i g k), some 28⟩] ?_
         refine D_run [0, 1, 2] [2, 1, 0] [81, 80, 4, 1] ((tI 81 x_v20) :: (tS 80 f r_.buses.length i) :: (K17m3 x_v20)) (fun _ _ _ _ _ h => h) b7 af.plOk (by kernel_rfl) (by rfl) (by kernel_rfl) fun jc ff => ?_
         obtain ⟨x82, ex82, p⟩ := bnd p
         obtain ⟨gz, g4, hf⟩ := idx_some ex82
         obtain ⟨x, z, ih, ej, g9, eo⟩ := b.get (by decide) hf
         obtain ⟨_, _, rfl, rfl, ⟨_, _, rfl, rfl, rfl⟩⟩ := g9
         have ci : Mem ⟨w, h, noX⟩ aw [(a, 0), (x, z + (x_v20 : Int).toNat * 3)] [⟨(K17c2 l r_ m f i g k), some 28⟩, ⟨(K17c1 x82), none⟩] [] (World.drew ia) := af.addPlc (cs := (K17c1 x82)) (fun j c hj => eo j _ (map_get hj)) rfl (by kernel_rfl) (by kernel_rfl)
         refine D_index 3 (x_v20) (K17c1 x82) (fun _ _ _ _ _ h => h) rfl rfl (rfl) rfl (by decide) (by kernel_rfl) (by kernel_rfl) ff af.plOk (by rfl) (by rfl) (by rfl) ej (by rfl) gz g4 (by kernel_rfl) fun hv (fg : Kn 128 [(a, 0), (x, z + (x_v20 : Int).toNat * 3)] ((tP 82 1 0) :: (tI 81 x_v20) :: (tS 80 f r_.buses.length i) :: (K17m3 x_v20)) hv) => ?_
         refine D_run [4, 5, 6] [6, 5, 4, 3, 2, 1, 0] [85, 84, 4, 1] ((tA 85 (K17c2 l r_ m f i g k)) :: (tI 84 x82.stop) :: (K17m3 x_v20)) (fun _ _ _ _ _ h => h) fg ci.plOk (by kernel_rfl) (by rfl) (by kernel_rfl) fun jd fh => ?_
         obtain ⟨x86, ex86, p⟩ := bnd p
         refine D_loud 7 rfl (by kernel_rfl) (by decide) (rfl) fun K hK => ?_
         refine wp_call [.agg (K17c2 l r_ m f i g k)] _ fh ci rfl rfl (by decide) (by rfl) rfl (fun _ _ => by kernel_rfl) (ref_Stops_ok ao ci.has r_ ((rep_pair (rep_slice e) (rep_pair (rep_pair rep_int rep_int) (rep_pair (rep_slice b) (rep_pair (rep_slice d) (rep_pair rep_int (rep_pair rep_int (rep_pair rep_int rep_int))))))) : rep aw r_ _) ex86) fun kb io ko d8 bg bo => ?_
         replace e := e.mono bg
         replace b := b.mono bg
         replace d := d.mono bg
         obtain rfl := d8
         refine ⟨.one (.c (.int .i64 x86)), rfl, fun hw (fi : Kn 128 [(a, 0), (x, z + (x_v20 : Int).toNat * 3)] ((tI 86 x86) :: (tA 85 (K17c2 l r_ m f i g k)) :: (tI 84 x82.stop) :: (K17m3 x_v20)) hw) => hK _ _ bo.plOk ?_⟩
         refine D_run [8] [8, 7, 6, 5, 4, 3, 2, 1, 0] [87, 84, 4, 1] ((tI 87 (IntKind.i64.wrap (x86 - 1))) :: (tI 84 x82.stop) :: (K17m3 x_v20)) (fun _ _ _ _ _ h => h) fi bo.plOk (by kernel_rfl) (by rfl) (by kernel_rfl) fun je fk => ?_
         obtain ⟨x88, ex88, p⟩ := bnd p
         refine D_loud 9 rfl (by kernel_rfl) (by decide) (rfl) fun K hK => ?_
         refine wp_call [.c (.int .i64 x82.stop), .c (.int .i64 0), .c (.int .i64 (IntKind.i64.wrap (x86 - 1)))] _ fk bo rfl rfl (by decide) (by rfl) rfl (fun _ _ => by kernel_rfl) (ref_In_ok ao bo.has x82.stop 0 (IntKind.i64.wrap (x86 - 1)) ex88) fun kc c1 ib d9 bh ac => ?_
         replace e := e.mono bh
         replace b := b.mono bh
         replace d := d.mono bh
         obtain rfl := d9
         refine ⟨.one (.c (.bool x88)), rfl, fun hx (fl : Kn 128 [(a, 0), (x, z + (x_v20 : Int).toNat * 3)] ((tB 88 x88) :: (tI 87 (IntKind.i64.wrap (x86 - 1))) :: (tI 84 x82.stop) :: (K17m3 x_v20)) hx) => hK _ _ ac.plOk ?_⟩
         refine D_run [10, 11] [11, 10, 9, 8, 7, 6, 5, 4, 3, 2, 1, 0] [90, 4, 1] ((tB 90 (!x88)) :: (K17m3 x_v20)) (fun _ _ _ _ _ h => h) fl ac.plOk (by kernel_rfl) (by rfl) (by kernel_rfl) fun dz c5 => ?_
         rcases Bool.eq_false_or_eq_true ((!x88)) with a1 | a1
         ·
          rw [a1, cond_true] at p
          have fm : Kn 128 [(a, 0), (x, z + (x_v20 : Int).toNat * 3)] ((tB 90 true) :: (K17m3 x_v20)) dz := (c5.setB 90 true (by rfl) a1).keep [90, 4, 1] (by rfl)
          refine D_run [12, 13, 14, 15, 16, 17, 18, 19, 20] [20, 19, 18, 17, 16, 15, 14, 13, 12, 11, 10, 9, 8, 7, 6, 5, 4, 3, 2, 1, 0] [99, 4, 1] ((tB 99 true) :: (K17m3 x_v20)) (fun _ _ _ _ _ h => h) fm ac.plOk (by kernel_rfl) (by rfl) (by kernel_rfl) fun jg c6 => ?_
          refine wpD_end (by kernel_rfl) (wp_cond_sv true c6 (by kernel_rfl) (fun hb => ?_) (fun hb => ?_))
          rotate_left
          ·
           cases hb
          refine wp_seq (wp_region_from (R_runk 0 1 [2] [(tI 2 1)] c6 ac.plOk (by kernel_rfl) fun jh fn => ?_))
          refine wpFrom_end (by decide) (wp_ret ?_)
          obtain rfl := Option.some.inj p
          obtain rfl := Option.some.inj H
          exact ret_ok (.one (.c (.int .i64 1))) fn ac (by kernel_rfl) rfl
         ·
          rw [a1, cond_false] at p
          have fo : Kn 128 [(a, 0), (x, z + (x_v20 : Int).toNat * 3)] ((tB 90 false) :: (K17m3 x_v20)) dz := (c5.setB 90 false (by rfl) a1).keep [90, 4, 1] (by rfl)
          refine D_run [12, 13, 14] [14, 13, 12, 11, 10, 9, 8, 7, 6, 5, 4, 3, 2, 1, 0] [93, 92, 90, 4, 1] ((tI 93 x_v20) :: (tS 92 f r_.buses.length i) :: (tB 90 false) :: (K17m3 x_v20)) (fun _ _ _ _ _ h => h) fo ac.plOk (by kernel_rfl) (by rfl) (by kernel_rfl) fun ji c7 => ?_
          obtain ⟨x94, ex94, p⟩ := bnd p
          obtain ⟨g0, g5, hg⟩ := idx_some ex94
          obtain ⟨bs, cn, ii, ek, ha, ep⟩ := b.get (by decide) hg
          obtain ⟨_, _, rfl, rfl, ⟨_, _, rfl, rfl, rfl⟩⟩ := ha
          have cj : Mem ⟨w, h, noX⟩ c1 [(a, 0), (x, z + (x_v20 : Int).toNat * 3), (bs, cn + (x_v20 : Int).toNat * 3)] [⟨(K17c2 l r_ m f i g k), some 28⟩, ⟨(K17c1 x82), none⟩, ⟨[.int .i64 x94.stop, .int .i64 x94.tm.lo, .int .i64 x94.tm.hi], none⟩] [] ib := ac.addPlc (cs := [.int .i64 x94.stop, .int .i64 x94.tm.lo, .int .i64 x94.tm.hi]) (fun j c hj => ep j _ (map_get hj)) rfl (by kernel_rfl) (by kernel_rfl)
          refine D_index 15 (x_v20) [.int .i64 x94.stop, .int .i64 x94.tm.lo, .int .i64 x94.tm.hi] (fun _ _ _ _ _ h => h) rfl rfl (wantedS_sound c7 (by kernel_rfl)) rfl (by decide) (by kernel_rfl) (by kernel_rfl) c7 ac.plOk (by rfl) (by rfl) (by rfl) ek (by rfl) g0 g5 (by kernel_rfl) fun hy (fs : Kn 128 [(a, 0), (x, z + (x_v20 : Int).toNat * 3), (bs, cn + (x_v20 : Int).toNat * 3)] ((tP 94 2 0) :: (tI 93 x_v20) :: (tS 92 f r_.buses.length i) :: (tB 90 false) :: (K17m3 x_v20)) hy) => ?_
          refine D_run [16, 17] [17, 16, 15, 14, 13, 12, 11, 10, 9, 8, 7, 6, 5, 4, 3, 2, 1, 0] [96, 90, 4, 1] ((tA 96 [.int .i64 x94.tm.lo, .int .i64 x94.tm.hi]) :: (tB 90 false) :: (K17m3 x_v20)) (fun _ _ _ _ _ h => h) fs cj.plOk (by kernel_rfl) (by rfl) (by kernel_rfl) fun jj c8 => ?_
          obtain ⟨x97, ex97, p⟩ := bnd p
          refine D_loud 18 rfl (by kernel_rfl) (by decide) (wantedS_sound c8 (by kernel_rfl)) fun K hK => ?_
          refine wp_call [.agg [.int .i64 x94.tm.lo, .int .i64 x94.tm.hi], .c (.int .i64 2000)] _ c8 cj rfl rfl (by decide) (by rfl) rfl (fun _ _ => by kernel_rfl) (ref_span_ok ao cj.has x94.tm ((rep_pair rep_int rep_int) : rep c1 x94.tm _) 2000 ex97) fun kd ip kp ea bi aj => ?_
          replace e := e.mono bi
          replace b := b.mono bi
          replace d := d.mono bi
          obtain rfl := ea
          refine ⟨.one (.c (.bool x97)), rfl, fun hz (ft : Kn 128 [(a, 0), (x, z + (x_v20 : Int).toNat * 3), (bs, cn + (x_v20 : Int).toNat * 3)] ((tB 97 x97) :: (tA 96 [.int .i64 x94.tm.lo, .int .i64 x94.tm.hi]) :: (tB 90 false) :: (K17m3 x_v20)) hz) => hK _ _ aj.plOk ?_⟩
          refine D_run [19, 20] [20, 19, 18, 17, 16, 15, 14, 13, 12, 11, 10, 9, 8, 7, 6, 5, 4, 3, 2, 1, 0] [99, 4, 1] ((tB 99 (!x97)) :: (K17m3 x_v20)) (fun _ _ _ _ _ h => h) ft aj.plOk (by kernel_rfl) (by rfl) (by kernel_rfl) fun jl b8 => ?_
          refine wpD_end (by kernel_rfl) (wp_cond_sv ((!x97)) b8 (by kernel_rfl) (fun b0 => ?_) (fun b0 => ?_))
          ·
           rw [b0, cond_true] at p
           refine wp_seq (wp_region_from (R_runk 0 1 [2] [(tI 2 1)] b8 aj.plOk (by kernel_rfl) fun jm fu => ?_))
           refine wpFrom_end (by decide) (wp_ret ?_)
           obtain rfl := Option.some.inj p
           obtain rfl := Option.some.inj H
           exact ret_ok (.one (.c (.int .i64 1))) fu aj (by kernel_rfl) rfl
          ·
           rw [b0, cond_false] at p
           refine wp_skip (wp_region_from (R_runk 0 3 [4, 1] [(tI 4 (IntKind.i64.wrap (x_v20 + 1))), (tP 1 0 0)] b8 aj.plOk (by kernel_rfl) fun jn fv => ?_))
           refine wpFrom_end (by decide) ?_
           exact Exists.intro ao ⟨Nat.lt_succ_self _, Exists.intro (IntKind.i64.wrap (x_v20 + 1)) ⟨_, _, rfl, ((fv.keep [4, 1] (by rfl)).cut 1 (by kernel_rfl)), (aj.cutPl 1 (by kernel_rfl)), (Heap.le_trans ba (Heap.le_trans bg (Heap.le_trans bh bi))), p⟩⟩
        ·
         rw [bz, cond_false] at p
         refine wp_exit ?_
         obtain rfl := Option.some.inj p
         exact Exists.intro () ⟨_, _, rfl, (b7.keep [1] (by rfl)), af, ba, rfl⟩
      ·
       rintro _ kq ⟨dv, ct, av, rfl, fx, dm, ce, rfl⟩
       rw [Ex.bind_go] at H
       replace e := e.mono ce
       replace b := b.mono ce
       replace d := d.mono ce
       refine wp_seq (wp_seq (wp_region_from (R_runk 0 1 [5, 1] [(tI 5 0), (tP 1 0 0)] fx dm.plOk (by kernel_rfl) fun jo fy => ?_)))
       refine wpFrom_end (by decide) ?_
       obtain ⟨ds, c0, H⟩ := bnd H
       refine wp_mid' (fun a' w' => ∃ (dw : Unit) (cv : Array Value) (bu : Heap), a' = ⟨cv, []⟩ ∧ Kn 128 [(a, 0)] [] cv ∧ Mem ⟨w, h, noX⟩ bu [(a, 0)] [⟨(K17c2 l r_ m f i g k), some 28⟩] [] w' ∧ Heap.le av bu ∧ ds = .go dw) ?_ ?_
       ·
        refine wp_block ?_
        refine wp_loop_n (fun hq a' w' => ∃ (x_v30 : Int) (cw : Array Value) (ax : Heap), a' = ⟨cw, []⟩ ∧ Kn 128 [(a, 0)] (K17m4 x_v30) cw ∧ Mem ⟨w, h, noX⟩ ax [(a, 0)] [⟨(K17c2 l r_ m f i g k), some 28⟩] [] w' ∧ Heap.le av ax ∧ ref_Fault_l3 hq r_ x_v30 = some ds) n ?_ ?_
        ·
         exact Exists.intro 0 ⟨_, _, rfl, (fy.keep [5, 1] (by rfl)), dm, (Heap.le_refl _), c0⟩
        ·
         rintro ap _ ic ⟨x_v30, cw, ax, rfl, fz, ag, bb, q⟩
         clear c0
         obtain _ | ap := ap
         ·
          rw [ref_Fault_l3] at q; cases q
         rw [ref_Fault_l3] at q
         replace e := e.mono bb
         replace b := b.mono bb
         replace d := d.mono bb
         refine wp_seq (wp_seq (wp_region_from (R_runk 0 5 [104, 5, 1] ((tB 104 (decide (x_v30 < ((r_.spares.length : Nat) : Int)))) :: (K17m4 x_v30)) fz ag.plOk (by kernel_rfl) fun jp ca => ?_)))
         refine wpFrom_end (by decide) (wp_cond_sv (decide (x_v30 < ((r_.spares.length : Nat) : Int))) ca (by kernel_rfl) (fun b1 => ?_) (fun b1 => ?_))
         ·
          rw [b1, cond_true] at q
          refine wp_skip (wp_seq (wp_block (wp_seq (wp_region_G (by kernel_rfl) ?_))))
          replace ag := ag.drew
          refine wpG_of_D [] [(a, 0)] [⟨(K17c2 l r_ m f i g k), some 28⟩] ?_
          refine D_run [0, 1, 2] [2, 1, 0] [109, 108, 5, 1] ((tI 109 x_v30) :: (tS 108 g r_.spares.length k) :: (K17m4 x_v30)) (fun _ _ _ _ _ h => h) ca ag.plOk (by kernel_rfl) (by rfl) (by kernel_rfl) fun jq f0 => ?_
          obtain ⟨x110, ex110, q⟩ := bnd q
          obtain ⟨g1, g6, hl⟩ := idx_some ex110
          obtain ⟨y, aa, ij, el, hc, er⟩ := d.get (by decide) hl
          obtain ⟨_, _, rfl, rfl, rfl⟩ := hc
          have ck : Mem ⟨w, h, noX⟩ ax [(a, 0), (y, aa + (x_v30 : Int).toNat * 2)] [⟨(K17c2 l r_ m f i g k), some 28⟩, ⟨[.int .i64 x110.stop, .int .i64 x110.tm], none⟩] [] (World.drew ic) := ag.addPlc (cs := [.int .i64 x110.stop, .int .i64 x110.tm]) (fun j c hj => er j _ (map_get hj)) rfl (by kernel_rfl) (by kernel_rfl)
          refine D_index 3 (x_v30) [.int .i64 x110.stop, .int .i64 x110.tm] (fun _ _ _ _ _ h => h) rfl rfl (rfl) rfl (by decide) (by kernel_rfl) (by kernel_rfl) f0 ag.plOk (by rfl) (by rfl) (by rfl) el (by rfl) g1 g6 (by kernel_rfl) fun h0 (f1 : Kn 128 [(a, 0), (y, aa + (x_v30 : Int).toNat * 2)] ((tP 110 1 0) :: (tI 109 x_v30) :: (tS 108 g r_.spares.length k) :: (K17m4 x_v30)) h0) => ?_
          refine D_run [4, 5, 6] [6, 5, 4, 3, 2, 1, 0] [113, 112, 5, 1] ((tA 113 (K17c2 l r_ m f i g k)) :: (tI 112 x110.stop) :: (K17m4 x_v30)) (fun _ _ _ _ _ h => h) f1 ck.plOk (by kernel_rfl) (by rfl) (by kernel_rfl) fun jr f2 => ?_
          obtain ⟨x114, ex114, q⟩ := bnd q
          refine D_loud 7 rfl (by kernel_rfl) (by decide) (rfl) fun K hK => ?_
          refine wp_call [.agg (K17c2 l r_ m f i g k)] _ f2 ck rfl rfl (by decide) (by rfl) rfl (fun _ _ => by kernel_rfl) (ref_Stops_ok ap ck.has r_ ((rep_pair (rep_slice e) (rep_pair (rep_pair rep_int rep_int) (rep_pair (rep_slice b) (rep_pair (rep_slice d) (rep_pair rep_int (rep_pair rep_int (rep_pair rep_int rep_int))))))) : rep ax r_ _) ex114) fun ke iq ks eb bj bp => ?_
          replace e := e.mono bj
          replace b := b.mono bj
          replace d := d.mono bj
          obtain rfl := eb
          refine ⟨.one (.c (.int .i64 x114)), rfl, fun h1 (f3 : Kn 128 [(a, 0), (y, aa + (x_v30 : Int).toNat * 2)] ((tI 114 x114) :: (tA 113 (K17c2 l r_ m f i g k)) :: (tI 112 x110.stop) :: (K17m4 x_v30)) h1) => hK _ _ bp.plOk ?_⟩
          refine D_run [8] [8, 7, 6, 5, 4, 3, 2, 1, 0] [115, 112, 5, 1] ((tI 115 (IntKind.i64.wrap (x114 - 1))) :: (tI 112 x110.stop) :: (K17m4 x_v30)) (fun _ _ _ _ _ h => h) f3 bp.plOk (by kernel_rfl) (by rfl) (by kernel_rfl) fun js f4 => ?_
          obtain ⟨x116, ex116, q⟩ := bnd q
          refine D_loud 9 rfl (by kernel_rfl) (by decide) (rfl) fun K hK => ?_
          refine wp_call [.c (.int .i64 x110.stop), .c (.int .i64 0), .c (.int .i64 (IntKind.i64.wrap (x114 - 1)))] _ f4 bp rfl rfl (by decide) (by rfl) rfl (fun _ _ => by kernel_rfl) (ref_In_ok ap bp.has x110.stop 0 (IntKind.i64.wrap (x114 - 1)) ex116) fun kf eh ie ec bk ad => ?_
          replace e := e.mono bk
          replace b := b.mono bk
          replace d := d.mono bk
          obtain rfl := ec
          refine ⟨.one (.c (.bool x116)), rfl, fun h2 (f5 : Kn 128 [(a, 0), (y, aa + (x_v30 : Int).toNat * 2)] ((tB 116 x116) :: (tI 115 (IntKind.i64.wrap (x114 - 1))) :: (tI 112 x110.stop) :: (K17m4 x_v30)) h2) => hK _ _ ad.plOk ?_⟩
          refine D_run [10, 11] [11, 10, 9, 8, 7, 6, 5, 4, 3, 2, 1, 0] [118, 5, 1] ((tB 118 (!x116)) :: (K17m4 x_v30)) (fun _ _ _ _ _ h => h) f5 ad.plOk (by kernel_rfl) (by rfl) (by kernel_rfl) fun d0 c9 => ?_
          rcases Bool.eq_false_or_eq_true ((!x116)) with a2 | a2
          ·
           rw [a2, cond_true] at q
           have f6 : Kn 128 [(a, 0), (y, aa + (x_v30 : Int).toNat * 2)] ((tB 118 true) :: (K17m4 x_v30)) d0 := (c9.setB 118 true (by rfl) a2).keep [118, 5, 1] (by rfl)
           refine D_run [12, 13, 14, 15, 16, 17, 18, 19, 20] [20, 19, 18, 17, 16, 15, 14, 13, 12, 11, 10, 9, 8, 7, 6, 5, 4, 3, 2, 1, 0] [127, 5, 1] ((tB 127 true) :: (K17m4 x_v30)) (fun _ _ _ _ _ h => h) f6 ad.plOk (by kernel_rfl) (by rfl) (by kernel_rfl) fun ju da => ?_
           refine wpD_end (by kernel_rfl) (wp_cond_sv true da (by kernel_rfl) (fun hb => ?_) (fun hb => ?_))
           rotate_left
           ·
            cases hb
           refine wp_seq (wp_region_from (R_runk 0 1 [2] [(tI 2 1)] da ad.plOk (by kernel_rfl) fun jv f7 => ?_))
           refine wpFrom_end (by decide) (wp_ret ?_)
           obtain rfl := Option.some.inj q
           obtain rfl := Option.some.inj H
           exact ret_ok (.one (.c (.int .i64 1))) f7 ad (by kernel_rfl) rfl
          ·
           rw [a2, cond_false] at q
           have f8 : Kn 128 [(a, 0), (y, aa + (x_v30 : Int).toNat * 2)] ((tB 118 false) :: (K17m4 x_v30)) d0 := (c9.setB 118 false (by rfl) a2).keep [118, 5, 1] (by rfl)
           refine D_run [12, 13, 14] [14, 13, 12, 11, 10, 9, 8, 7, 6, 5, 4, 3, 2, 1, 0] [121, 120, 118, 5, 1] ((tI 121 x_v30) :: (tS 120 g r_.spares.length k) :: (tB 118 false) :: (K17m4 x_v30)) (fun _ _ _ _ _ h => h) f8 ad.plOk (by kernel_rfl) (by rfl) (by kernel_rfl) fun jw db => ?_
           obtain ⟨x122, ex122, q⟩ := bnd q
           obtain ⟨g2, g7, hn⟩ := idx_some ex122
           obtain ⟨bt, co, ik, em, hd, es⟩ := d.get (by decide) hn
           obtain ⟨_, _, rfl, rfl, rfl⟩ := hd
           have cl : Mem ⟨w, h, noX⟩ eh [(a, 0), (y, aa + (x_v30 : Int).toNat * 2), (bt, co + (x_v30 : Int).toNat * 2)] [⟨(K17c2 l r_ m f i g k), some 28⟩, ⟨[.int .i64 x110.stop, .int .i64 x110.tm], none⟩, ⟨[.int .i64 x122.stop, .int .i64 x122.tm], none⟩] [] ie := ad.addPlc (cs := [.int .i64 x122.stop, .int .i64 x122.tm]) (fun j c hj => es j _ (map_get hj)) rfl (by kernel_rfl) (by kernel_rfl)
           refine D_index 15 (x_v30) [.int .i64 x122.stop, .int .i64 x122.tm] (fun _ _ _ _ _ h => h) rfl rfl (wantedS_sound db (by kernel_rfl)) rfl (by decide) (by kernel_rfl) (by kernel_rfl) db ad.plOk (by rfl) (by rfl) (by rfl) em (by rfl) g2 g7 (by kernel_rfl) fun h3 (ga : Kn 128 [(a, 0), (y, aa + (x_v30 : Int).toNat * 2), (bt, co + (x_v30 : Int).toNat * 2)] ((tP 122 2 0) :: (tI 121 x_v30) :: (tS 120 g r_.spares.length k) :: (tB 118 false) :: (K17m4 x_v30)) h3) => ?_
           refine D_run [16, 17] [17, 16, 15, 14, 13, 12, 11, 10, 9, 8, 7, 6, 5, 4, 3, 2, 1, 0] [124, 118, 5, 1] ((tI 124 x122.tm) :: (tB 118 false) :: (K17m4 x_v30)) (fun _ _ _ _ _ h => h) ga cl.plOk (by kernel_rfl) (by rfl) (by kernel_rfl) fun jx dc => ?_
           obtain ⟨x125, ex125, q⟩ := bnd q
           refine D_loud 18 rfl (by kernel_rfl) (by decide) (wantedS_sound dc (by kernel_rfl)) fun K hK => ?_
           refine wp_call [.c (.int .i64 x122.tm), .c (.int .i64 0), .c (.int .i64 2000)] _ dc cl rfl rfl (by decide) (by rfl) rfl (fun _ _ => by kernel_rfl) (ref_In_ok ap cl.has x122.tm 0 2000 ex125) fun kg ir kt ed bl ak => ?_
           replace e := e.mono bl
           replace b := b.mono bl
           replace d := d.mono bl
           obtain rfl := ed
           refine ⟨.one (.c (.bool x125)), rfl, fun h4 (gb : Kn 128 [(a, 0), (y, aa + (x_v30 : Int).toNat * 2), (bt, co + (x_v30 : Int).toNat * 2)] ((tB 125 x125) :: (tI 124 x122.tm) :: (tB 118 false) :: (K17m4 x_v30)) h4) => hK _ _ ak.plOk ?_⟩
           refine D_run [19, 20] [20, 19, 18, 17, 16, 15, 14, 13, 12, 11, 10, 9, 8, 7, 6, 5, 4, 3, 2, 1, 0] [127, 5, 1] ((tB 127 (!x125)) :: (K17m4 x_v30)) (fun _ _ _ _ _ h => h) gb ak.plOk (by kernel_rfl) (by rfl) (by kernel_rfl) fun jy cb => ?_
           refine wpD_end (by kernel_rfl) (wp_cond_sv ((!x125)) cb (by kernel_rfl) (fun b3 => ?_) (fun b3 => ?_))
           ·
            rw [b3, cond_true] at q
            refine wp_seq (wp_region_from (R_runk 0 1 [2] [(tI 2 1)] cb ak.plOk (by kernel_rfl) fun jz gc => ?_))
            refine wpFrom_end (by decide) (wp_ret ?_)
            obtain rfl := Option.some.inj q
            obtain rfl := Option.some.inj H
            exact ret_ok (.one (.c (.int .i64 1))) gc ak (by kernel_rfl) rfl
           ·
            rw [b3, cond_false] at q
            refine wp_skip (wp_region_from (R_runk 0 3 [5, 1] [(tI 5 (IntKind.i64.wrap (x_v30 + 1))), (tP 1 0 0)] cb ak.plOk (by kernel_rfl) fun j0 gd => ?_))
            refine wpFrom_end (by decide) ?_
            exact Exists.intro ap ⟨Nat.lt_succ_self _, Exists.intro (IntKind.i64.wrap (x_v30 + 1)) ⟨_, _, rfl, ((gd.keep [5, 1] (by rfl)).cut 1 (by kernel_rfl)), (ak.cutPl 1 (by kernel_rfl)), (Heap.le_trans bb (Heap.le_trans bj (Heap.le_trans bk bl))), q⟩⟩
         ·
          rw [b1, cond_false] at q
          refine wp_exit ?_
          obtain rfl := Option.some.inj q
          exact Exists.intro () ⟨_, _, rfl, (ca.keep [] (by rfl)), ag, bb, rfl⟩
       ·
        rintro _ ku ⟨dw, cv, bu, rfl, gf, dn, cg, rfl⟩
        rw [Ex.bind_go] at H
        replace e := e.mono cg
        replace b := b.mono cg
        replace d := d.mono cg
        refine wp_seq (wp_region_from (R_runk 0 1 [2] [(tI 2 0)] gf dn.plOk (by kernel_rfl) fun j1 gg => ?_))
        refine wpFrom_end (by decide) (wp_ret ?_)
        obtain rfl := Option.some.inj H
        exact ret_ok (.one (.c (.int .i64 0))) gg dn (by kernel_rfl) rfl

abbrev K32c1 (b : Option Addr) (r_ : Route) (g : Nat) (d : Option Addr) (i : Nat) (e : Option Addr) (j : Nat) : List SC := [.slice b r_.legs.length g, .int .i64 r_.turn.lo, .int .i64 r_.turn.hi, .slice d r_.buses.length i, .slice e r_.spares.length j, .int .i64 r_.unit, .int .i64 r_.gap, .int .i64 r_.fr, .int .i64 r_.to_]
set_option maxRecDepth 100000 in
set_option maxHeartbeats 4000000 in
theorem law_Thin_ok (n : Nat) {h : Heap} {w : World} (hh : Has h w) (r_ : Route) {cs_r_ : List Value} (hx_r_ : rep h r_ cs_r_) {r : Bool} (H : law_Thin n r_ = some r) :
  Calls Try.prog 32 #[.agg cs_r_.toArray] w (Ret (fun h v => v = .bool r) h w) := by
 obtain ⟨_, _, rfl, ⟨b, g, rfl, ag⟩, ⟨_, _, rfl, ⟨_, _, rfl, rfl, rfl⟩, ⟨_, _, rfl, ⟨d, i, rfl, ah⟩, ⟨_, _, rfl, ⟨e, j, rfl, ai⟩, ⟨_, _, rfl, rfl, ⟨_, _, rfl, rfl, ⟨_, _, rfl, rfl, rfl⟩⟩⟩⟩⟩⟩⟩ := hx_r_
 refine enter 19 [.agg (K32c1 b r_ g d i e j)] Try.func32 rfl rfl rfl rfl fun t hk => ?_
 have hm := Mem.begin h w hh
 unfold law_Thin at H
 refine wp_seq (wp_region_from (wpFrom_loud _ rfl (rfl) fun K hK => ?_))
 refine wp_box (.agg (K32c1 b r_ g d i e j)) hk hm rfl rfl (by decide) (by kernel_rfl) (by kernel_rfl) (by kernel_rfl) fun f ae af (s : Kn 19 [(f, 0)] [(tP 1 0 0), (tA 0 (K32c1 b r_ g d i e j))] ae) (a : Mem ⟨w, h, noX⟩ h [(f, 0)] [⟨(K32c1 b r_ g d i e j), some 28⟩] [] af) => hK _ _ ?_
 refine R_runk 1 1 [1] [(tP 1 0 0)] s a.plOk (by kernel_rfl) fun aj u => ?_
 refine wpFrom_end (by decide) (wp_seq (wp_region_from (R_runk 0 5 [7, 1] [(tB 7 (decide (((r_.legs.length : Nat) : Int) ≤ 10))), (tP 1 0 0)] u a.plOk (by kernel_rfl) fun p m => ?_)))
 rcases Bool.eq_false_or_eq_true (decide (((r_.legs.length : Nat) : Int) ≤ 10)) with k | k
 ·
  rw [k, cond_true] at H
  have x : Kn 19 [(f, 0)] [(tB 7 true), (tP 1 0 0)] p := (m.setB 7 true (by rfl) k).keep [7, 1] (by rfl)
  refine R_runk 5 6 [13, 1] [(tB 13 (decide (((r_.buses.length : Nat) : Int) ≤ 6))), (tP 1 0 0)] x a.plOk (by kernel_rfl) fun q o => ?_
  rcases Bool.eq_false_or_eq_true (decide (((r_.buses.length : Nat) : Int) ≤ 6)) with l | l
  ·
   rw [l, cond_true] at H
   have y : Kn 19 [(f, 0)] [(tB 13 true), (tP 1 0 0)] q := (o.setB 13 true (by rfl) l).keep [13, 1] (by rfl)
   refine R_runk 11 6 [2] [(tB 2 (decide (((r_.spares.length : Nat) : Int) ≤ 4)))] y a.plOk (by kernel_rfl) fun ak z => ?_
   refine wpFrom_end (by decide) (wp_ret ?_)
   obtain rfl := Option.some.inj H
   exact ret_ok (.one (.c (.bool (decide (((r_.spares.length : Nat) : Int) ≤ 4))))) z a (by kernel_rfl) rfl
  ·
   rw [l, cond_false] at H
   have aa : Kn 19 [(f, 0)] [(tB 13 false), (tP 1 0 0)] q := (o.setB 13 false (by rfl) l).keep [13, 1] (by rfl)
   refine R_runk 11 6 [2] [(tB 2 false)] aa a.plOk (by kernel_rfl) fun al ab => ?_
   refine wpFrom_end (by decide) (wp_ret ?_)
   obtain rfl := Option.some.inj H
   exact ret_ok (.one (.c (.bool false))) ab a (by kernel_rfl) rfl
 ·
  rw [k, cond_false] at H
  have ac : Kn 19 [(f, 0)] [(tB 7 false), (tP 1 0 0)] p := (m.setB 7 false (by rfl) k).keep [7, 1] (by rfl)
  refine R_runk 5 12 [2] [(tB 2 false)] ac a.plOk (by kernel_rfl) fun am ad => ?_
  refine wpFrom_end (by decide) (wp_ret ?_)
  obtain rfl := Option.some.inj H
  exact ret_ok (.one (.c (.bool false))) ad a (by kernel_rfl) rfl

abbrev K44m1 (a_a : Option Addr) (a : List Int) (c_a : Nat) (a_b : Option Addr) (b : List Int) (c_b : Nat) : TM := [(tS 0 a_a a.length c_a), (tS 1 a_b b.length c_b)]
set_option maxRecDepth 100000 in
set_option maxHeartbeats 4000000 in
theorem law_ints_ok (n : Nat) {h : Heap} {w : World} (hh : Has h w) (a : List Int) {a_a : Option Addr} {c_a : Nat} (hr_a : RepS h a_a c_a a) (b : List Int) {a_b : Option Addr} {c_b : Nat} (hr_b : RepS h a_b c_b b) {r : Bool} (H : law_ints n a b = some r) :
  Calls Try.prog 44 #[.slice a_a a.length c_a, .slice a_b b.length c_b] w (Ret (fun h v => v = .bool r) h w) := by
 refine enter 26 [.c (.slice a_a a.length c_a), .c (.slice a_b b.length c_b)] Try.func44 rfl rfl rfl rfl fun t hk => ?_
 have hm := Mem.begin h w hh
 unfold law_ints at H
 refine wp_seq (wp_region_from (R_runk 0 1 [0, 1] (K44m1 a_a a c_a a_b b c_b) hk hm.plOk (by kernel_rfl) fun bf ao => ?_))
 refine wpFrom_end (by decide) (wp_seq (wp_seq (wp_region_from (R_runk 0 5 [10, 0, 1] ((tB 10 (((a.length : Nat) : Int) != ((b.length : Nat) : Int))) :: (K44m1 a_a a c_a a_b b c_b)) ao hm.plOk (by kernel_rfl) fun bi u => ?_))))
 refine wpFrom_end (by decide) (wp_cond_sv ((((a.length : Nat) : Int) != ((b.length : Nat) : Int))) u (by kernel_rfl) (fun p => ?_) (fun p => ?_))
 ·
  rw [p, cond_true] at H
  refine wp_seq (wp_region_from (R_runk 0 1 [4] [(tB 4 false)] u hm.plOk (by kernel_rfl) fun bm a0 => ?_))
  refine wpFrom_end (by decide) (wp_ret ?_)
  obtain rfl := Option.some.inj H
  exact ret_ok (.one (.c (.bool false))) a0 hm (by kernel_rfl) rfl
 ·
  rw [p, cond_false] at H
  refine wp_skip (wp_seq (wp_seq (wp_region_from (R_runk 0 1 [5, 0, 1] ((tI 5 0) :: (K44m1 a_a a c_a a_b b c_b)) u hm.plOk (by kernel_rfl) fun bp a1 => ?_))))
  refine wpFrom_end (by decide) ?_
  obtain ⟨ag, ad, H⟩ := bnd H
  refine wp_mid' (fun a' w' => ∃ (ai : Unit) (aa : Array Value) (m : Heap), a' = ⟨aa, []⟩ ∧ Kn 26 [] [] aa ∧ Mem ⟨w, h, noX⟩ m [] [] [] w' ∧ Heap.le h m ∧ ag = .go ai) ?_ ?_
  ·
   refine wp_block ?_
   refine wp_loop_n (fun ba a' w' => ∃ (x_v10 : Int) (ab : Array Value) (f : Heap), a' = ⟨ab, []⟩ ∧ Kn 26 [] ((tI 5 x_v10) :: (K44m1 a_a a c_a a_b b c_b)) ab ∧ Mem ⟨w, h, noX⟩ f [] [] [] w' ∧ Heap.le h f ∧ law_ints_l1 ba a b x_v10 = some ag) n ?_ ?_
   ·
    exact Exists.intro 0 ⟨_, _, rfl, (a1.keep [5, 0, 1] (by rfl)), hm, (Heap.le_refl _), ad⟩
   ·
    rintro z _ aj ⟨x_v10, ab, f, rfl, ap, e, k, d⟩
    clear ad
    obtain _ | z := z
    ·
     rw [law_ints_l1] at d; cases d
    rw [law_ints_l1] at d
    replace hr_a := hr_a.mono k
    replace hr_b := hr_b.mono k
    refine wp_seq (wp_seq (wp_region_from (R_runk 0 4 [14, 5, 0, 1] ((tB 14 (decide (x_v10 < ((a.length : Nat) : Int)))) :: (tI 5 x_v10) :: (K44m1 a_a a c_a a_b b c_b)) ap e.plOk (by kernel_rfl) fun bg s => ?_)))
    refine wpFrom_end (by decide) (wp_cond_sv (decide (x_v10 < ((a.length : Nat) : Int))) s (by kernel_rfl) (fun o => ?_) (fun o => ?_))
    ·
     rw [o, cond_true] at d
     refine wp_skip (wp_seq (wp_block (wp_seq (wp_region_G (by kernel_rfl) ?_))))
     replace e := e.drew
     refine wpG_of_D [] [] [] ?_
     refine D_run [0, 1] [1, 0] [18, 17, 5, 0, 1] ((tI 18 x_v10) :: (tS 17 a_a a.length c_a) :: (tI 5 x_v10) :: (K44m1 a_a a c_a a_b b c_b)) (fun _ _ _ _ _ h => h) s e.plOk (by kernel_rfl) (by rfl) (by kernel_rfl) fun bh aq => ?_
     obtain ⟨x19, ex19, d⟩ := bnd d
     obtain ⟨a2, a4, a8⟩ := idx_some ex19
     obtain ⟨i, l, bd, ak, a6, am⟩ := hr_a.get (by decide) a8
     obtain rfl := a6
     have y : Mem ⟨w, h, noX⟩ f [(i, l + (x_v10 : Int).toNat * 1)] [⟨[.int .i64 x19], none⟩] [] (World.drew aj) := e.addPlc (cs := [.int .i64 x19]) (fun j c hj => am j _ (map_get hj)) rfl (by kernel_rfl) (by kernel_rfl)
     refine D_index 2 (x_v10) [.int .i64 x19] (fun _ _ _ _ _ h => h) rfl rfl (rfl) rfl (by decide) (by kernel_rfl) (by kernel_rfl) aq e.plOk (by rfl) (by rfl) (by rfl) ak (by rfl) a2 a4 (by kernel_rfl) fun bb (ar : Kn 26 [(i, l + (x_v10 : Int).toNat * 1)] ((tP 19 0 0) :: (tI 18 x_v10) :: (tS 17 a_a a.length c_a) :: (tI 5 x_v10) :: (K44m1 a_a a c_a a_b b c_b)) bb) => ?_
     refine D_run [3, 4, 5] [5, 4, 3, 2, 1, 0] [22, 21, 20, 5, 0, 1] ((tI 22 x_v10) :: (tS 21 a_b b.length c_b) :: (tI 20 x19) :: (tI 5 x_v10) :: (K44m1 a_a a c_a a_b b c_b)) (fun _ _ _ _ _ h => h) ar y.plOk (by kernel_rfl) (by rfl) (by kernel_rfl) fun bj au => ?_
     obtain ⟨x23, ex23, d⟩ := bnd d
     obtain ⟨a3, a5, a9⟩ := idx_some ex23
     obtain ⟨ac, ah, be, al, a7, an⟩ := hr_b.get (by decide) a9
     obtain rfl := a7
     have g : Mem ⟨w, h, noX⟩ f [(i, l + (x_v10 : Int).toNat * 1), (ac, ah + (x_v10 : Int).toNat * 1)] [⟨[.int .i64 x19], none⟩, ⟨[.int .i64 x23], none⟩] [] (World.drew aj) := y.addPlc (cs := [.int .i64 x23]) (fun j c hj => an j _ (map_get hj)) rfl (by kernel_rfl) (by kernel_rfl)
     refine D_index 6 (x_v10) [.int .i64 x23] (fun _ _ _ _ _ h => h) rfl rfl (rfl) rfl (by decide) (by kernel_rfl) (by kernel_rfl) au y.plOk (by rfl) (by rfl) (by rfl) al (by rfl) a3 a5 (by kernel_rfl) fun bc (av : Kn 26 [(i, l + (x_v10 : Int).toNat * 1), (ac, ah + (x_v10 : Int).toNat * 1)] ((tP 23 1 0) :: (tI 22 x_v10) :: (tS 21 a_b b.length c_b) :: (tI 20 x19) :: (tI 5 x_v10) :: (K44m1 a_a a c_a a_b b c_b)) bc) => ?_
     refine D_run [7, 8] [8, 7, 6, 5, 4, 3, 2, 1, 0] [25, 5, 0, 1] ((tB 25 (x19 != x23)) :: (tI 5 x_v10) :: (K44m1 a_a a c_a a_b b c_b)) (fun _ _ _ _ _ h => h) av g.plOk (by kernel_rfl) (by rfl) (by kernel_rfl) fun bk x => ?_
     refine wpD_end (by kernel_rfl) (wp_cond_sv ((x19 != x23)) x (by kernel_rfl) (fun q => ?_) (fun q => ?_))
     ·
      rw [q, cond_true] at d
      refine wp_seq (wp_region_from (R_runk 0 1 [4] [(tB 4 false)] x g.plOk (by kernel_rfl) fun bl aw => ?_))
      refine wpFrom_end (by decide) (wp_ret ?_)
      obtain rfl := Option.some.inj d
      obtain rfl := Option.some.inj H
      exact ret_ok (.one (.c (.bool false))) aw g (by kernel_rfl) rfl
     ·
      rw [q, cond_false] at d
      refine wp_skip (wp_region_from (R_runk 0 3 [5, 0, 1] ((tI 5 (IntKind.i64.wrap (x_v10 + 1))) :: (K44m1 a_a a c_a a_b b c_b)) x g.plOk (by kernel_rfl) fun bn ax => ?_))
      refine wpFrom_end (by decide) ?_
      exact Exists.intro z ⟨Nat.lt_succ_self _, Exists.intro (IntKind.i64.wrap (x_v10 + 1)) ⟨_, _, rfl, ((ax.keep [5, 0, 1] (by rfl)).cut 0 (by kernel_rfl)), (g.cutPl 0 (by kernel_rfl)), k, d⟩⟩
    ·
     rw [o, cond_false] at d
     refine wp_exit ?_
     obtain rfl := Option.some.inj d
     exact Exists.intro () ⟨_, _, rfl, (s.keep [] (by rfl)), e, k, rfl⟩
  ·
   rintro _ bq ⟨ai, aa, m, rfl, ay, af, ae, rfl⟩
   rw [Ex.bind_go] at H
   replace hr_a := hr_a.mono ae
   replace hr_b := hr_b.mono ae
   refine wp_seq (wp_region_from (R_runk 0 1 [4] [(tB 4 true)] ay af.plOk (by kernel_rfl) fun bo az => ?_))
   refine wpFrom_end (by decide) (wp_ret ?_)
   obtain rfl := Option.some.inj H
   exact ret_ok (.one (.c (.bool true))) az af (by kernel_rfl) rfl
end Go.Proofs.Ytokchpjijlebiaa
