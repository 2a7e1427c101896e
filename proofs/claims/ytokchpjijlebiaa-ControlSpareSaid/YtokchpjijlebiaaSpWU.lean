/- Each call computes its plain function. -/
import Derived.Test.YtokchpjijlebiaaProg
import Derived.Test.YtokchpjijlebiaaSpP0
import Derived.Test.YtokchpjijlebiaaSpWS
set_option linter.all false
namespace Go.Proofs.Ytokchpjijlebiaa
open Go Go.RowKit
open Rep (rep)
open KRep (kv)
open VRep (rv)
abbrev K94c1 (o : Option Addr) (t_ : Times) (p : Nat) : List SC := [.slice o t_.legs.length p, .int .i64 t_.turn]
abbrev K94c2 (x : Trip) : List SC := [.int .i64 x.stop, .int .i64 x.tm, .int .i64 x.turned]
abbrev K94c3 (f : Option Addr) (r_ : Route) (k : Nat) (g : Option Addr) (l : Nat) (j : Option Addr) (m : Nat) : List SC := [.slice f r_.legs.length k, .int .i64 r_.turn.lo, .int .i64 r_.turn.hi, .slice g r_.buses.length l, .slice j r_.spares.length m, .int .i64 r_.unit, .int .i64 r_.gap, .int .i64 r_.fr, .int .i64 r_.to_]
set_option maxRecDepth 100000 in
set_option maxHeartbeats 4000000 in
theorem control_Route_passes_ok (n : Nat) {h : Heap} {w : World} (hh : Has h w) (r_ : Route) {cs_r_ : List Value} (hx_r_ : rep h r_ cs_r_) (x : Trip) {cs_x : List Value} (hx_x : rep h x cs_x) (t_ : Times) {cs_t_ : List Value} (hx_t_ : rep h t_ cs_t_) {r : Trip × Route × Times} (H : control_Route_passes n r_ x t_ = some r) :
  Calls Try.prog 94 #[.agg cs_r_.toArray, .agg cs_x.toArray, .agg cs_t_.toArray] w (Ret (fun h v => ∃ b0 b1 b2 : Nat, v = .func (.func 106) #[] #[.pointer (some ⟨b0, 0, none⟩), .pointer (some ⟨b1, 0, none⟩), .pointer (some ⟨b2, 0, none⟩)] ∧ BoxS h b0 r.1 ∧ BoxS h b1 r.2.1 ∧ BoxS h b2 r.2.2) h w) := by
 obtain ⟨_, _, rfl, ⟨f, k, rfl, ai⟩, ⟨_, _, rfl, ⟨_, _, rfl, rfl, rfl⟩, ⟨_, _, rfl, ⟨g, l, rfl, aj⟩, ⟨_, _, rfl, ⟨j, m, rfl, ak⟩, ⟨_, _, rfl, rfl, ⟨_, _, rfl, rfl, ⟨_, _, rfl, rfl, rfl⟩⟩⟩⟩⟩⟩⟩ := hx_r_
 obtain ⟨_, _, rfl, rfl, ⟨_, _, rfl, rfl, rfl⟩⟩ := hx_x
 obtain ⟨_, _, rfl, ⟨o, p, rfl, ah⟩, rfl⟩ := hx_t_
 refine enter 8 [.agg (K94c3 f r_ k g l j m), .agg (K94c2 x), .agg (K94c1 o t_ p)] Try.func94 rfl rfl rfl rfl fun t hk => ?_
 have hm := Mem.begin h w hh
 unfold control_Route_passes at H
 refine wp_seq (wp_region_from (wl fun K hK => ?_))
 refine wb (.agg (K94c3 f r_ k g l j m)) hk hm fun a a0 a4 (aq : Kn 8 [(a, 0)] [(tP 3 0 0), (tA 0 (K94c3 f r_ k g l j m)), (tA 1 (K94c2 x)), (tA 2 (K94c1 o t_ p))] a0) (ay : Mem ⟨w, h, noX⟩ h [(a, 0)] [⟨(K94c3 f r_ k g l j m), some 43⟩] [] a4) => hK _ _ ?_
 refine wl fun K hK => ?_
 refine wb (.agg (K94c2 x)) aq ay fun b a1 a5 (ar : Kn 8 [(a, 0), (b, 0)] [(tP 4 1 0), (tP 3 0 0), (tA 0 (K94c3 f r_ k g l j m)), (tA 1 (K94c2 x)), (tA 2 (K94c1 o t_ p))] a1) (az : Mem ⟨w, h, noX⟩ h [(a, 0), (b, 0)] [⟨(K94c3 f r_ k g l j m), some 43⟩, ⟨(K94c2 x), some 153⟩] [] a5) => hK _ _ ?_
 refine wl fun K hK => ?_
 refine wb (.agg (K94c1 o t_ p)) ar az fun d a2 ab (au : Kn 8 [(a, 0), (b, 0), (d, 0)] [(tP 5 2 0), (tP 4 1 0), (tP 3 0 0), (tA 0 (K94c3 f r_ k g l j m)), (tA 1 (K94c2 x)), (tA 2 (K94c1 o t_ p))] a2) (ao : Mem ⟨w, h, noX⟩ h [(a, 0), (b, 0), (d, 0)] [⟨(K94c3 f r_ k g l j m), some 43⟩, ⟨(K94c2 x), some 153⟩, ⟨(K94c1 o t_ p), some 158⟩] [] ab) => hK _ _ ?_
 refine Rk 3 1 [(tP 5 2 0), (tP 4 1 0), (tP 3 0 0)] au ao fun a9 av => ?_
 refine wf (wp_seq (wp_region_from ?_))
 obtain ⟨s, z, al, af⟩ := ao.settlePlc (i := 1) rfl
 replace af : Mem ⟨w, h, noX⟩ s [(a, 0), (b, 0), (d, 0)] [⟨(K94c3 f r_ k g l j m), some 43⟩, ⟨(K94c2 x), none⟩, ⟨(K94c1 o t_ p), some 158⟩] [] ab := af
 have ac : BoxS s b (x : Trip) := BoxS.of (e := [(a, 0), (b, 0), (d, 0)]) (cs := (K94c2 x)) ((rep_pair rep_int (rep_pair rep_int rep_int)) : rep s (x : Trip) _) rfl al
 have a6 : CellsAt s b [.int .i64 x.stop, .int .i64 x.tm, .int .i64 x.turned] := CellsAt.of (e := [(a, 0), (b, 0), (d, 0)]) (cs := [.int .i64 x.stop, .int .i64 x.tm, .int .i64 x.turned]) rfl al
 obtain ⟨u, q, am, ag⟩ := af.settlePlc (i := 0) rfl
 replace ai := ai.mono (Heap.le_trans z q)
 replace aj := aj.mono (Heap.le_trans z q)
 replace ak := ak.mono (Heap.le_trans z q)
 replace ag : Mem ⟨w, h, noX⟩ u [(a, 0), (b, 0), (d, 0)] [⟨(K94c3 f r_ k g l j m), none⟩, ⟨(K94c2 x), none⟩, ⟨(K94c1 o t_ p), some 158⟩] [] ab := ag
 have ad : BoxS u a (r_ : Route) := BoxS.of (e := [(a, 0), (b, 0), (d, 0)]) (cs := (K94c3 f r_ k g l j m)) ((rep_pair (rep_slice ai) (rep_pair (rep_pair rep_int rep_int) (rep_pair (rep_slice aj) (rep_pair (rep_slice ak) (rep_pair rep_int (rep_pair rep_int (rep_pair rep_int rep_int))))))) : rep u (r_ : Route) _) rfl am
 have a7 : CellsAt u a [.slice f r_.legs.length k, .int .i64 r_.turn.lo, .int .i64 r_.turn.hi, .slice g r_.buses.length l, .slice j r_.spares.length m, .int .i64 r_.unit, .int .i64 r_.gap, .int .i64 r_.fr, .int .i64 r_.to_] := CellsAt.of (e := [(a, 0), (b, 0), (d, 0)]) (cs := [.slice f r_.legs.length k, .int .i64 r_.turn.lo, .int .i64 r_.turn.hi, .slice g r_.buses.length l, .slice j r_.spares.length m, .int .i64 r_.unit, .int .i64 r_.gap, .int .i64 r_.fr, .int .i64 r_.to_]) rfl am
 obtain ⟨y, ae, an, aa⟩ := ag.settlePlc (i := 2) rfl
 replace ah := ah.mono (Heap.le_trans (Heap.le_trans z q) ae)
 replace ac := ac.mono (Heap.le_trans q ae)
 replace ad := ad.mono ae
 replace aa : Mem ⟨w, h, noX⟩ y [(a, 0), (b, 0), (d, 0)] [⟨(K94c3 f r_ k g l j m), none⟩, ⟨(K94c2 x), none⟩, ⟨(K94c1 o t_ p), none⟩] [] ab := aa
 have ap : BoxS y d (t_ : Times) := BoxS.of (e := [(a, 0), (b, 0), (d, 0)]) (cs := (K94c1 o t_ p)) ((rep_pair (rep_slice ah) rep_int) : rep y (t_ : Times) _) rfl an
 have a8 : CellsAt y d [.slice o t_.legs.length p, .int .i64 t_.turn] := CellsAt.of (e := [(a, 0), (b, 0), (d, 0)]) (cs := [.slice o t_.legs.length p, .int .i64 t_.turn]) rfl an
 refine R_func 0 #[] #[.pointer (some ⟨b, 0, none⟩), .pointer (some ⟨a, 0, none⟩), .pointer (some ⟨d, 0, none⟩)] av rfl rfl (rfl) rfl (by decide) (by rfl) (by rfl) (by rfl) (by rfl) fun a3 (aw : Kn 8 [(a, 0), (b, 0), (d, 0)] [(7, .one (.c (.func (.func 106) #[] #[.pointer (some ⟨b, 0, none⟩), .pointer (some ⟨a, 0, none⟩), .pointer (some ⟨d, 0, none⟩)]))), (tP 5 2 0), (tP 4 1 0), (tP 3 0 0)] a3) => ?_
 refine Rk 1 1 [(6, .one (.c (.func (.func 106) #[] #[.pointer (some ⟨b, 0, none⟩), .pointer (some ⟨a, 0, none⟩), .pointer (some ⟨d, 0, none⟩)])))] aw aa fun ba ax => ?_
 refine wf (wp_ret ?_)
 obtain rfl := Option.some.inj H
 exact rt (.one (.c (.func (.func 106) #[] #[.pointer (some ⟨b, 0, none⟩), .pointer (some ⟨a, 0, none⟩), .pointer (some ⟨d, 0, none⟩)]))) ax aa ⟨_, _, _, rfl, ac, ad, ap⟩
end Go.Proofs.Ytokchpjijlebiaa
