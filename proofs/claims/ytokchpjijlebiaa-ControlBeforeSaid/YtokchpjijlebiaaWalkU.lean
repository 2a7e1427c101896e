/- Each call computes its plain function: printed by dec.py. -/
import Derived.Test.YtokchpjijlebiaaProg
import Derived.Test.YtokchpjijlebiaaPure
import Derived.Test.YtokchpjijlebiaaWalkS
set_option linter.all false
namespace Go.Proofs.Ytokchpjijlebiaa
open Go Go.RowKit
open Rep (rep)
open KRep (kv)
open VRep (rv)
abbrev K94c1 (o : Option Addr) (t_ : Times) (p : Nat) : List SC := [.slice o t_.legs.length p, .int .i64 t_.turn]
abbrev K94c2 (x : Trip) : List SC := [.int .i64 x.stop, .int .i64 x.tm, .int .i64 x.turned]
abbrev K94c3 (f : Option Addr) (r_ : Route) (k : Nat) (g : Option Addr) (l : Nat) (j : Option Addr) (m : Nat) : List SC := [.slice f r_.legs.length k, .int .i64 r_.turn.lo, .int .i64 r_.turn.hi, .slice g r_.buses.length l, .slice j r_.spares.length m, .int .i64 r_.unit, .int .i64 r_.gap, .int .i64 r_.fr, .int .i64 r_.to_]
set_option maxRecDepth 100000 in
set_option maxHeartbeats 4000000 in
theorem control_Route_passes_ok (n : Nat) {h : Heap} {w : World} (hh : Has h w) (r_ : Route) {cs_r_ : List Value} (hx_r_ : rep h r_ cs_r_) (x : Trip) {cs_x : List Value} (hx_x : rep h x cs_x) (t_ : Times) {cs_t_ : List Value} (hx_t_ : rep h t_ cs_t_) {r : Trip × Route × Times} (H : control_Route_passes n r_ x t_ = some r) :
  Calls Try.prog 94 #[.agg cs_r_.toArray, .agg cs_x.toArray, .agg cs_t_.toArray] w (Ret (fun h v => ∃ b0 b1 b2 : Nat, v = .func (.func 106) #[] #[.pointer (some ⟨b0, 0, none⟩), .pointer (some ⟨b1, 0, none⟩), .pointer (some ⟨b2, 0, none⟩)] ∧ BoxS h b0 r.1 ∧ BoxS h b1 r.2.1 ∧ BoxS h b2 r.2.2) h w) := by
 obtain ⟨_, _, rfl, ⟨f, k, rfl, u⟩, ⟨_, _, rfl, ⟨_, _, rfl, rfl, rfl⟩, ⟨_, _, rfl, ⟨g, l, rfl, y⟩, ⟨_, _, rfl, ⟨j, m, rfl, z⟩, ⟨_, _, rfl, rfl, ⟨_, _, rfl, rfl, ⟨_, _, rfl, rfl, rfl⟩⟩⟩⟩⟩⟩⟩ := hx_r_
 obtain ⟨_, _, rfl, rfl, ⟨_, _, rfl, rfl, rfl⟩⟩ := hx_x
 obtain ⟨_, _, rfl, ⟨o, p, rfl, s⟩, rfl⟩ := hx_t_
 refine enter 8 [.agg (K94c3 f r_ k g l j m), .agg (K94c2 x), .agg (K94c1 o t_ p)] Try.func94 rfl rfl rfl rfl fun t hk => ?_
 have hm := Mem.begin h w hh
 unfold control_Route_passes at H
 refine wp_seq (wp_region_from (wpFrom_loud _ rfl (rfl) fun K hK => ?_))
 refine wp_box (.agg (K94c3 f r_ k g l j m)) hk hm rfl rfl (by decide) (by kernel_rfl) (by kernel_rfl) (by kernel_rfl) fun a a2 a6 (au : Kn 8 [(a, 0)] [(tP 3 0 0), (tA 0 (K94c3 f r_ k g l j m)), (tA 1 (K94c2 x)), (tA 2 (K94c1 o t_ p))] a2) (a0 : Mem ⟨w, h, noX⟩ h [(a, 0)] [⟨(K94c3 f r_ k g l j m), some 43⟩] [] a6) => hK _ _ ?_
 refine wpFrom_loud _ rfl (rfl) fun K hK => ?_
 refine wp_box (.agg (K94c2 x)) au a0 rfl rfl (by decide) (by kernel_rfl) (by kernel_rfl) (by kernel_rfl) fun b a3 a7 (av : Kn 8 [(a, 0), (b, 0)] [(tP 4 1 0), (tP 3 0 0), (tA 0 (K94c3 f r_ k g l j m)), (tA 1 (K94c2 x)), (tA 2 (K94c1 o t_ p))] a3) (a1 : Mem ⟨w, h, noX⟩ h [(a, 0), (b, 0)] [⟨(K94c3 f r_ k g l j m), some 43⟩, ⟨(K94c2 x), some 153⟩] [] a7) => hK _ _ ?_
 refine wpFrom_loud _ rfl (rfl) fun K hK => ?_
 refine wp_box (.agg (K94c1 o t_ p)) av a1 rfl rfl (by decide) (by kernel_rfl) (by kernel_rfl) (by kernel_rfl) fun d a4 ai (aw : Kn 8 [(a, 0), (b, 0), (d, 0)] [(tP 5 2 0), (tP 4 1 0), (tP 3 0 0), (tA 0 (K94c3 f r_ k g l j m)), (tA 1 (K94c2 x)), (tA 2 (K94c1 o t_ p))] a4) (aq : Mem ⟨w, h, noX⟩ h [(a, 0), (b, 0), (d, 0)] [⟨(K94c3 f r_ k g l j m), some 43⟩, ⟨(K94c2 x), some 153⟩, ⟨(K94c1 o t_ p), some 158⟩] [] ai) => hK _ _ ?_
 refine R_runk 3 1 [5, 4, 3] [(tP 5 2 0), (tP 4 1 0), (tP 3 0 0)] aw aq.plOk (by kernel_rfl) fun a9 ax => ?_
 refine wpFrom_end (by decide) (wp_seq (wp_region_from ?_))
 obtain ⟨ac, ag, an, ak⟩ := aq.settlePlc (i := 1) rfl
 replace u := u.mono ag
 replace y := y.mono ag
 replace z := z.mono ag
 replace s := s.mono ag
 replace ak : Mem ⟨w, h, noX⟩ ac [(a, 0), (b, 0), (d, 0)] [⟨(K94c3 f r_ k g l j m), some 43⟩, ⟨(K94c2 x), none⟩, ⟨(K94c1 o t_ p), some 158⟩] [] ai := ak
 have ab : BoxS ac b (x : Trip) := BoxS.of (e := [(a, 0), (b, 0), (d, 0)]) (cs := (K94c2 x)) ((rep_pair rep_int (rep_pair rep_int rep_int)) : rep ac (x : Trip) _) rfl an
 have af : CellsAt ac b [.int .i64 x.stop, .int .i64 x.tm, .int .i64 x.turned] := CellsAt.of (e := [(a, 0), (b, 0), (d, 0)]) (cs := [.int .i64 x.stop, .int .i64 x.tm, .int .i64 x.turned]) rfl an
 obtain ⟨ad, aa, ao, al⟩ := ak.settlePlc (i := 0) rfl
 replace u := u.mono aa
 replace y := y.mono aa
 replace z := z.mono aa
 replace s := s.mono aa
 replace ab := ab.mono aa
 replace af := af.mono aa
 replace al : Mem ⟨w, h, noX⟩ ad [(a, 0), (b, 0), (d, 0)] [⟨(K94c3 f r_ k g l j m), none⟩, ⟨(K94c2 x), none⟩, ⟨(K94c1 o t_ p), some 158⟩] [] ai := al
 have aj : BoxS ad a (r_ : Route) := BoxS.of (e := [(a, 0), (b, 0), (d, 0)]) (cs := (K94c3 f r_ k g l j m)) ((rep_pair (rep_slice u) (rep_pair (rep_pair rep_int rep_int) (rep_pair (rep_slice y) (rep_pair (rep_slice z) (rep_pair rep_int (rep_pair rep_int (rep_pair rep_int rep_int))))))) : rep ad (r_ : Route) _) rfl ao
 have am : CellsAt ad a [.slice f r_.legs.length k, .int .i64 r_.turn.lo, .int .i64 r_.turn.hi, .slice g r_.buses.length l, .slice j r_.spares.length m, .int .i64 r_.unit, .int .i64 r_.gap, .int .i64 r_.fr, .int .i64 r_.to_] := CellsAt.of (e := [(a, 0), (b, 0), (d, 0)]) (cs := [.slice f r_.legs.length k, .int .i64 r_.turn.lo, .int .i64 r_.turn.hi, .slice g r_.buses.length l, .slice j r_.spares.length m, .int .i64 r_.unit, .int .i64 r_.gap, .int .i64 r_.fr, .int .i64 r_.to_]) rfl ao
 obtain ⟨ae, q, ap, ah⟩ := al.settlePlc (i := 2) rfl
 replace u := u.mono q
 replace y := y.mono q
 replace z := z.mono q
 replace s := s.mono q
 replace ab := ab.mono q
 replace af := af.mono q
 replace aj := aj.mono q
 replace am := am.mono q
 replace ah : Mem ⟨w, h, noX⟩ ae [(a, 0), (b, 0), (d, 0)] [⟨(K94c3 f r_ k g l j m), none⟩, ⟨(K94c2 x), none⟩, ⟨(K94c1 o t_ p), none⟩] [] ai := ah
 have ar : BoxS ae d (t_ : Times) := BoxS.of (e := [(a, 0), (b, 0), (d, 0)]) (cs := (K94c1 o t_ p)) ((rep_pair (rep_slice s) rep_int) : rep ae (t_ : Times) _) rfl ap
 have a8 : CellsAt ae d [.slice o t_.legs.length p, .int .i64 t_.turn] := CellsAt.of (e := [(a, 0), (b, 0), (d, 0)]) (cs := [.slice o t_.legs.length p, .int .i64 t_.turn]) rfl ap
 refine R_func 0 #[] #[.pointer (some ⟨b, 0, none⟩), .pointer (some ⟨a, 0, none⟩), .pointer (some ⟨d, 0, none⟩)] ax rfl rfl (rfl) rfl (by decide) (by rfl) (by rfl) (by rfl) (by rfl) fun a5 (ay : Kn 8 [(a, 0), (b, 0), (d, 0)] [(7, .one (.c (.func (.func 106) #[] #[.pointer (some ⟨b, 0, none⟩), .pointer (some ⟨a, 0, none⟩), .pointer (some ⟨d, 0, none⟩)]))), (tP 5 2 0), (tP 4 1 0), (tP 3 0 0)] a5) => ?_
 refine R_runk 1 1 [6] [(6, .one (.c (.func (.func 106) #[] #[.pointer (some ⟨b, 0, none⟩), .pointer (some ⟨a, 0, none⟩), .pointer (some ⟨d, 0, none⟩)])))] ay ah.plOk (by kernel_rfl) fun ba az => ?_
 refine wpFrom_end (by decide) (wp_ret ?_)
 obtain rfl := Option.some.inj H
 exact ret_ok (.one (.c (.func (.func 106) #[] #[.pointer (some ⟨b, 0, none⟩), .pointer (some ⟨a, 0, none⟩), .pointer (some ⟨d, 0, none⟩)]))) az ah (by kernel_rfl) ⟨_, _, _, rfl, ab, aj, ar⟩
end Go.Proofs.Ytokchpjijlebiaa
