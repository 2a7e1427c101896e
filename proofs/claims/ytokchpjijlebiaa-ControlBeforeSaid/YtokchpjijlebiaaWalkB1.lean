/- Each call computes its plain function: printed by dec.py. -/
import Derived.Test.YtokchpjijlebiaaProg
import Derived.Test.YtokchpjijlebiaaPure
import Derived.Test.YtokchpjijlebiaaWalkQ
import Derived.Test.YtokchpjijlebiaaWalkX
set_option linter.all false
namespace Go.Proofs.Ytokchpjijlebiaa
open Go Go.RowKit
open Rep (rep)
open KRep (kv)
open VRep (rv)
abbrev K25c1 (j : Option Addr) (a : Acts) (m : Nat) (k : Option Addr) (o : Nat) (l : Option Addr) (p : Nat) : List SC := [.slice j a.holds.length m, .slice k a.turns.length o, .slice l a.spares.length p]
abbrev K25c2 (b : Option Addr) (r_ : Route) (f : Nat) (d : Option Addr) (g : Nat) (e : Option Addr) (i : Nat) : List SC := [.slice b r_.legs.length f, .int .i64 r_.turn.lo, .int .i64 r_.turn.hi, .slice d r_.buses.length g, .slice e r_.spares.length i, .int .i64 r_.unit, .int .i64 r_.gap, .int .i64 r_.fr, .int .i64 r_.to_]
abbrev K25c3 (b : Option Addr) (r_ : Route) (f : Nat) (d : Option Addr) (g : Nat) (e : Option Addr) (i : Nat) (j : Option Addr) (a : Acts) (m : Nat) (k : Option Addr) (o : Nat) (l : Option Addr) (p : Nat) : List SC := [.slice b r_.legs.length f, .int .i64 r_.turn.lo, .int .i64 r_.turn.hi, .slice d r_.buses.length g, .slice e r_.spares.length i, .int .i64 r_.unit, .int .i64 r_.gap, .int .i64 r_.fr, .int .i64 r_.to_, .slice j a.holds.length m, .slice k a.turns.length o, .slice l a.spares.length p]
set_option maxRecDepth 100000 in
set_option maxHeartbeats 4000000 in
theorem control_Worst_ok (n : Nat) {h : Heap} {w : World} (hh : Has h w) (r_ : Route) {cs_r_ : List Value} (hx_r_ : rep h r_ cs_r_) (a : Acts) {cs_a : List Value} (hx_a : rep h a cs_a) {r : (List Int) × Int} (H : control_Worst n r_ a = some r) :
  Calls Try.prog 25 #[.agg cs_r_.toArray, .agg cs_a.toArray] w (Ret (fun h v => ∃ v0 v1, v = .tuple #[v0, v1] ∧ (∃ a c, v0 = .slice a r.1.length c ∧ RepS h a c r.1) ∧ (v1 = .int .i64 r.2)) h w) := by
 obtain ⟨_, _, rfl, ⟨b, f, rfl, ab⟩, ⟨_, _, rfl, ⟨_, _, rfl, rfl, rfl⟩, ⟨_, _, rfl, ⟨d, g, rfl, ac⟩, ⟨_, _, rfl, ⟨e, i, rfl, ad⟩, ⟨_, _, rfl, rfl, ⟨_, _, rfl, rfl, ⟨_, _, rfl, rfl, rfl⟩⟩⟩⟩⟩⟩⟩ := hx_r_
 obtain ⟨_, _, rfl, ⟨j, m, rfl, y⟩, ⟨_, _, rfl, ⟨k, o, rfl, z⟩, ⟨l, p, rfl, aa⟩⟩⟩ := hx_a
 refine enter 17 [.agg (K25c2 b r_ f d g e i), .agg (K25c1 j a m k o l p)] Try.func25 rfl rfl rfl rfl fun t hk => ?_
 have hm := Mem.begin h w hh
 unfold control_Worst at H
 refine wp_seq (wp_region_from (wpFrom_loud _ rfl (rfl) fun K hK => ?_))
 refine wp_box (.agg (K25c2 b r_ f d g e i)) hk hm rfl rfl (by decide) (by kernel_rfl) (by kernel_rfl) (by kernel_rfl) fun s a2 a6 (ao : Kn 17 [(s, 0)] [(tP 2 0 0), (tA 0 (K25c2 b r_ f d g e i)), (tA 1 (K25c1 j a m k o l p))] a2) (a0 : Mem ⟨w, h, noX⟩ h [(s, 0)] [⟨(K25c2 b r_ f d g e i), some 43⟩] [] a6) => hK _ _ ?_
 refine wpFrom_loud _ rfl (rfl) fun K hK => ?_
 refine wp_box (.agg (K25c1 j a m k o l p)) ao a0 rfl rfl (by decide) (by kernel_rfl) (by kernel_rfl) (by kernel_rfl) fun af a3 a7 (ap : Kn 17 [(s, 0), (af, 0)] [(tP 3 1 0), (tP 2 0 0), (tA 0 (K25c2 b r_ f d g e i)), (tA 1 (K25c1 j a m k o l p))] a3) (ah : Mem ⟨w, h, noX⟩ h [(s, 0), (af, 0)] [⟨(K25c2 b r_ f d g e i), some 43⟩, ⟨(K25c1 j a m k o l p), some 34⟩] [] a7) => hK _ _ ?_
 refine R_runk 2 2 [3, 2] [(tP 3 1 0), (tP 2 0 0)] ap ah.plOk (by kernel_rfl) fun a9 aq => ?_
 refine wpFrom_end (by decide) (wp_seq (wp_seq (wp_region_from (R_runk 0 2 [8, 7, 3, 2] [(tA 8 (K25c1 j a m k o l p)), (tA 7 (K25c2 b r_ f d g e i)), (tP 3 1 0), (tP 2 0 0)] aq ah.plOk (by kernel_rfl) fun ba ar => ?_))))
 obtain ⟨x9, ex9, H⟩ := bnd H
 refine wpFrom_loud _ rfl (rfl) fun K hK => ?_
 refine wp_call [.agg (K25c2 b r_ f d g e i), .agg (K25c1 j a m k o l p)] _ ar ah rfl rfl (by decide) (by rfl) rfl (fun _ _ => by kernel_rfl) (control_Route_acts_ok n ah.has r_ ((rep_pair (rep_slice ab) (rep_pair (rep_pair rep_int rep_int) (rep_pair (rep_slice ac) (rep_pair (rep_slice ad) (rep_pair rep_int (rep_pair rep_int (rep_pair rep_int rep_int))))))) : rep h r_ _) a ((rep_pair (rep_slice y) (rep_pair (rep_slice z) (rep_slice aa))) : rep h a _) ex9) fun bg an bi al u q => ?_
 replace ab := ab.mono u
 replace ac := ac.mono u
 replace ad := ad.mono u
 replace y := y.mono u
 replace z := z.mono u
 replace aa := aa.mono u
 obtain rfl := al
 refine ⟨.one (.c (.int .i64 x9)), rfl, fun a4 (au : Kn 17 [(s, 0), (af, 0)] [(tI 9 x9), (tA 8 (K25c1 j a m k o l p)), (tA 7 (K25c2 b r_ f d g e i)), (tP 3 1 0), (tP 2 0 0)] a4) => hK _ _ ?_⟩
 refine R_runk 3 1 [6, 3, 2] [(tI 6 x9), (tP 3 1 0), (tP 2 0 0)] au q.plOk (by kernel_rfl) fun bb av => ?_
 refine wpFrom_end (by decide) (wp_seq (wp_region_from (R_runk 0 2 [11, 6, 3, 2] [(tB 11 (x9 != 0)), (tI 6 x9), (tP 3 1 0), (tP 2 0 0)] av q.plOk (by kernel_rfl) fun bc aj => ?_)))
 refine wpFrom_end (by decide) (wp_cond_sv ((x9 != 0)) aj (by kernel_rfl) (fun ai => ?_) (fun ai => ?_))
 ·
  rw [ai, cond_true] at H
  refine wp_seq (wp_region_from (R_runk 0 3 [5, 4] [(tI 5 x9), (tS 4 none 0 0)] aj q.plOk (by kernel_rfl) fun bd aw => ?_))
  refine wpFrom_end (by decide) (wp_ret ?_)
  obtain rfl := Option.some.inj H
  exact ret_ok (.tup [.c (.slice none 0 0), .c (.int .i64 x9)]) aw q (by kernel_rfl) ⟨_, _, rfl, ⟨_, _, rfl, RepS.nil⟩, rfl⟩
 ·
  rw [ai, cond_false] at H
  refine wp_skip (wp_seq (wp_region_from (R_runk 0 3 [15] [(tA 15 (K25c3 b r_ f d g e i j a m k o l p))] aj q.plOk (by kernel_rfl) fun be ax => ?_)))
  obtain ⟨x16, ex16, H⟩ := bnd H
  refine wpFrom_loud _ rfl (rfl) fun K hK => ?_
  refine wp_call [.agg (K25c3 b r_ f d g e i j a m k o l p)] _ ax q rfl rfl (by decide) (by rfl) rfl (fun _ _ => by kernel_rfl) (control_worked_waits_ok n q.has (Worked.mk r_ a) ((rep_pair (rep_pair (rep_slice ab) (rep_pair (rep_pair rep_int rep_int) (rep_pair (rep_slice ac) (rep_pair (rep_slice ad) (rep_pair rep_int (rep_pair rep_int (rep_pair rep_int rep_int))))))) (rep_pair (rep_slice y) (rep_pair (rep_slice z) (rep_slice aa)))) : rep an (Worked.mk r_ a) _) ex16) fun bh a8 bj am x ak => ?_
  replace ab := ab.mono x
  replace ac := ac.mono x
  replace ad := ad.mono x
  replace y := y.mono x
  replace z := z.mono x
  replace aa := aa.mono x
  obtain ⟨ae, ag, rfl, a1⟩ := am
  refine ⟨.one (.c (.slice ae x16.length ag)), rfl, fun a5 (ay : Kn 17 [(s, 0), (af, 0)] [(tS 16 ae x16.length ag), (tA 15 (K25c3 b r_ f d g e i j a m k o l p))] a5) => hK _ _ ?_⟩
  refine R_runk 4 2 [5, 4] [(tI 5 0), (tS 4 ae x16.length ag)] ay ak.plOk (by kernel_rfl) fun bf az => ?_
  refine wpFrom_end (by decide) (wp_ret ?_)
  obtain rfl := Option.some.inj H
  exact ret_ok (.tup [.c (.slice ae x16.length ag), .c (.int .i64 0)]) az ak (by kernel_rfl) ⟨_, _, rfl, ⟨_, _, rfl, a1⟩, rfl⟩
end Go.Proofs.Ytokchpjijlebiaa
