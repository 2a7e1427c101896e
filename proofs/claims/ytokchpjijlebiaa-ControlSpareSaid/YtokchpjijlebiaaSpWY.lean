/- Each call computes its plain function. -/
import Derived.Test.YtokchpjijlebiaaProg
import Derived.Test.YtokchpjijlebiaaSpP0
import Derived.Test.YtokchpjijlebiaaSpWP
set_option linter.all false
namespace Go.Proofs.Ytokchpjijlebiaa
open Go Go.RowKit
open Rep (rep)
open KRep (kv)
open VRep (rv)
abbrev K85c1 (c : Cost) : List SC := [.int .i64 c.number, .int .i64 c.sum]
abbrev K85c2 (x61 : Bus) : List SC := [.int .i64 x61.stop, .int .i64 x61.tm.lo, .int .i64 x61.tm.hi]
abbrev K85e3 (b_buses b_from_ b_r_ b_see a b : Nat) : Env := [(b_buses, 0), (b_from_, 0), (b_r_, 0), (b_see, 0), (a, 0), (b, 0)]
abbrev K85c4 (c : Cost) (x_v10 : Int) : List SC := [.int .i64 (IntKind.i64.wrap (c.number + (if 1 < x_v10 then 1 else x_v10))), .int .i64 (IntKind.i64.wrap (c.sum + x_v10))]
abbrev K85e5 (b_buses b_from_ b_r_ b_see a b ad ag : Nat) (at_ buses : Int) : Env := [(b_buses, 0), (b_from_, 0), (b_r_, 0), (b_see, 0), (a, 0), (b, 0), (ad, ag + (IntKind.i64.wrap (at_ - buses) : Int).toNat * 3)]
abbrev K85c6 (c : Cost) (x_v20 : Int) : List SC := [.int .i64 (IntKind.i64.wrap (c.number + (if 1 < (IntKind.i64.wrap (x_v20 + 1)) then 1 else (IntKind.i64.wrap (x_v20 + 1))))), .int .i64 c.sum]
abbrev K85c7 (b_buses b_from_ b_r_ b_see : Nat) : List SC := [.func (.func 85) #[] #[.pointer (some ⟨b_buses, 0, none⟩), .pointer (some ⟨b_from_, 0, none⟩), .pointer (some ⟨b_r_, 0, none⟩), .pointer (some ⟨b_see, 0, none⟩)]]
abbrev K85c8 (u : A4int) (d : Deeds) : List SC := [.int .i64 u.a0, .int .i64 u.a1, .int .i64 u.a2, .int .i64 u.a3, .int .i64 d.turns.a0, .int .i64 d.turns.a1, .int .i64 d.turns.a2, .int .i64 d.turns.a3, .bool d.spares.a0, .bool d.spares.a1]
abbrev K85c9 (d : Deeds) (x_v21 : A4int) : List SC := [.int .i64 d.holds.a0, .int .i64 d.holds.a1, .int .i64 d.holds.a2, .int .i64 d.holds.a3, .int .i64 x_v21.a0, .int .i64 x_v21.a1, .int .i64 x_v21.a2, .int .i64 x_v21.a3, .bool d.spares.a0, .bool d.spares.a1]
abbrev K85c10 (d : Deeds) (q : A4int) : List SC := [.int .i64 d.holds.a0, .int .i64 d.holds.a1, .int .i64 d.holds.a2, .int .i64 d.holds.a3, .int .i64 q.a0, .int .i64 q.a1, .int .i64 q.a2, .int .i64 q.a3, .bool d.spares.a0, .bool d.spares.a1]
abbrev K85c11 (d : Deeds) (ac : A2bool) : List SC := [.int .i64 d.holds.a0, .int .i64 d.holds.a1, .int .i64 d.holds.a2, .int .i64 d.holds.a3, .int .i64 d.turns.a0, .int .i64 d.turns.a1, .int .i64 d.turns.a2, .int .i64 d.turns.a3, .bool ac.a0, .bool ac.a1]
abbrev K85c12 (i : Option Addr) (r_ : Route) (l : Nat) (f : Option Addr) (g : Nat) (k : Option Addr) (m : Nat) : List SC := [.slice i r_.legs.length l, .int .i64 r_.turn.lo, .int .i64 r_.turn.hi, .slice f r_.buses.length g, .slice k r_.spares.length m, .int .i64 r_.unit, .int .i64 r_.gap, .int .i64 r_.fr, .int .i64 r_.to_]
abbrev K85c13 (d : Deeds) : List SC := [.int .i64 d.holds.a0, .int .i64 d.holds.a1, .int .i64 d.holds.a2, .int .i64 d.holds.a3, .int .i64 d.turns.a0, .int .i64 d.turns.a1, .int .i64 d.turns.a2, .int .i64 d.turns.a3, .bool d.spares.a0, .bool d.spares.a1]
abbrev K85m14 (x_v20 at_ : Int) : TM := [(tI 11 x_v20), (tP 8 5 0), (tP 7 4 0), (tI 2 at_), (tP 3 0 0), (tP 4 1 0), (tP 5 2 0)]
abbrev K85m15 (x_v30 at_ : Int) : TM := [(tI 94 x_v30), (tP 8 5 0), (tP 7 4 0), (tI 2 at_), (tP 3 0 0), (tP 4 1 0)]
abbrev K85m16 (x_v10 at_ : Int) : TM := [(tI 21 x_v10), (tP 8 5 0), (tP 7 4 0), (tI 2 at_), (tP 4 1 0)]
abbrev K85m17 (at_ : Int) : TM := [(tI 2 at_), (tP 3 0 0), (tP 4 1 0), (tP 5 2 0), (tP 6 3 0)]
abbrev K85m18 (at_ : Int) : TM := [(tP 8 5 0), (tP 7 4 0), (tI 2 at_), (tP 3 0 0), (tP 4 1 0), (tP 5 2 0)]
set_option maxRecDepth 100000 in
set_option maxHeartbeats 4000000 in
theorem control_Route_every_1_rec (n : Nat) : ∀ (F : Fr) (h : Heap) (w : World) (σ : Type) (XS : σ → Fr → Heap → Prop) (B : Nat → Prop) (hXS : SOk XS B) (see_ : σ → Deeds → Cost → Option σ) (fn_see : Fn) (fa_see fc_see : Array Value) (hy : See1 XS B (.func fn_see fa_see fc_see) see_) (b_buses b_from_ b_r_ b_see : Nat) (d : Deeds) (cs_d : List Value) (hx_d : rep h d cs_d) (c : Cost) (cs_c : List Value) (hx_c : rep h c cs_c) (at_ : Int) (buses : Int) (hb_buses : BoxS h b_buses buses) (hc_from_ : CellsAt h b_from_ [.func (.func 85) #[] #[.pointer (some ⟨b_buses, 0, none⟩), .pointer (some ⟨b_from_, 0, none⟩), .pointer (some ⟨b_r_, 0, none⟩), .pointer (some ⟨b_see, 0, none⟩)]]) (r_ : Route) (hb_r_ : BoxS h b_r_ r_) (hc_see : CellsAt h b_see [.func fn_see fa_see fc_see]) (s : σ) (hs : XS s F h) (hm : Mem F h [] [] [] w) (r : σ) (H : control_Route_every_1 n see_ d c at_ buses r_ s = some r),
  Calls Try.prog 85 #[.agg cs_d.toArray, .agg cs_c.toArray, .int .i64 at_, .pointer (some ⟨b_buses, 0, none⟩), .pointer (some ⟨b_from_, 0, none⟩), .pointer (some ⟨b_r_, 0, none⟩), .pointer (some ⟨b_see, 0, none⟩)] w (SRet XS B F h r) := by
 induction n using Nat.strongRecOn with
 | _ n ih =>
  intro F h w σ XS B hXS see_ fn_see fa_see fc_see hy b_buses b_from_ b_r_ b_see d cs_d hx_d c cs_c hx_c at_ buses hb_buses hc_from_ r_ hb_r_ hc_see s hs hm r H
  obtain _ | n := n
  ·
   rw [control_Route_every_1] at H; cases H
  obtain ⟨_, _, rfl, ⟨_, _, rfl, rfl, ⟨_, _, rfl, rfl, ⟨_, _, rfl, rfl, rfl⟩⟩⟩, ⟨_, _, rfl, ⟨_, _, rfl, rfl, ⟨_, _, rfl, rfl, ⟨_, _, rfl, rfl, rfl⟩⟩⟩, ⟨_, _, rfl, rfl, rfl⟩⟩⟩ := hx_d
  obtain ⟨_, _, rfl, rfl, rfl⟩ := hx_c
  obtain ⟨_, hx_buses, hc_buses⟩ := id hb_buses
  obtain rfl := hx_buses
  obtain ⟨_, hx_r_, hc_r_⟩ := id hb_r_
  obtain ⟨_, _, rfl, ⟨i, l, rfl, aa⟩, ⟨_, _, rfl, ⟨_, _, rfl, rfl, rfl⟩, ⟨_, _, rfl, ⟨f, g, rfl, z⟩, ⟨_, _, rfl, ⟨k, m, rfl, ab⟩, ⟨_, _, rfl, rfl, ⟨_, _, rfl, rfl, ⟨_, _, rfl, rfl, rfl⟩⟩⟩⟩⟩⟩⟩ := hx_r_
  refine enter' (e := [(b_buses, 0), (b_from_, 0), (b_r_, 0), (b_see, 0)]) 118 [.agg (K85c13 d), .agg (K85c1 c), .c (.int .i64 at_), .c (.ptr 0 0), .c (.ptr 1 0), .c (.ptr 2 0), .c (.ptr 3 0)] Try.func85 rfl rfl rfl rfl fun t hk => ?_
  replace hm := hm.addPlc (o := 0) (cs := [.int .i64 buses]) (fun j c hj => by rw [Nat.zero_add]; exact hc_buses j _ (map_get hj)) rfl (by kernel_rfl) (by kernel_rfl)
  replace hm := hm.addPlc (o := 0) (cs := [.func (.func 85) #[] #[.pointer (some ⟨b_buses, 0, none⟩), .pointer (some ⟨b_from_, 0, none⟩), .pointer (some ⟨b_r_, 0, none⟩), .pointer (some ⟨b_see, 0, none⟩)]]) (fun j c hj => by rw [Nat.zero_add]; exact hc_from_ j _ (map_get hj)) rfl (by kernel_rfl) (by kernel_rfl)
  replace hm := hm.addPlc (o := 0) (cs := [.slice i r_.legs.length l, .int .i64 r_.turn.lo, .int .i64 r_.turn.hi, .slice f r_.buses.length g, .slice k r_.spares.length m, .int .i64 r_.unit, .int .i64 r_.gap, .int .i64 r_.fr, .int .i64 r_.to_]) (fun j c hj => by rw [Nat.zero_add]; exact hc_r_ j _ (map_get hj)) rfl (by kernel_rfl) (by kernel_rfl)
  replace hm := hm.addPlc (o := 0) (cs := [.func fn_see fa_see fc_see]) (fun j c hj => by rw [Nat.zero_add]; exact hc_see j _ (map_get hj)) rfl (by kernel_rfl) (by kernel_rfl)
  replace hm : Mem F h [(b_buses, 0), (b_from_, 0), (b_r_, 0), (b_see, 0)] [⟨[.int .i64 buses], none⟩, ⟨(K85c7 b_buses b_from_ b_r_ b_see), none⟩, ⟨(K85c12 i r_ l f g k m), none⟩, ⟨[.func fn_see fa_see fc_see], none⟩] [] w := hm
  rw [control_Route_every_1] at H
  refine wp_seq (wp_region_from (wl fun K hK => ?_))
  refine wb (.agg (K85c13 d)) hk hm fun a gi gl (d1 : Kn 118 [(b_buses, 0), (b_from_, 0), (b_r_, 0), (b_see, 0), (a, 0)] ((tP 7 4 0) :: (tA 0 (K85c13 d)) :: (tA 1 (K85c1 c)) :: (K85m17 at_)) gi) (fb : Mem F h [(b_buses, 0), (b_from_, 0), (b_r_, 0), (b_see, 0), (a, 0)] [⟨[.int .i64 buses], none⟩, ⟨(K85c7 b_buses b_from_ b_r_ b_see), none⟩, ⟨(K85c12 i r_ l f g k m), none⟩, ⟨[.func fn_see fa_see fc_see], none⟩, ⟨(K85c13 d), some 102⟩] [] gl) => hK _ _ ?_
  refine wl fun K hK => ?_
  refine wb (.agg (K85c1 c)) d1 fb fun b ct go (ea : Kn 118 (K85e3 b_buses b_from_ b_r_ b_see a b) ((tP 8 5 0) :: (tP 7 4 0) :: (tA 0 (K85c13 d)) :: (tA 1 (K85c1 c)) :: (K85m17 at_)) ct) (af : Mem F h (K85e3 b_buses b_from_ b_r_ b_see a b) [⟨[.int .i64 buses], none⟩, ⟨(K85c7 b_buses b_from_ b_r_ b_see), none⟩, ⟨(K85c12 i r_ l f g k m), none⟩, ⟨[.func fn_see fa_see fc_see], none⟩, ⟨(K85c13 d), some 102⟩, ⟨(K85c1 c), some 104⟩] [] go) => hK _ _ ?_
  have ee : Kn 118 (K85e3 b_buses b_from_ b_r_ b_see a b) ((tP 8 5 0) :: (tP 7 4 0) :: (K85m17 at_)) ct := ea.kp
  refine wf (wp_block (wp_seq (wp_region_from (Rk 0 4 ((tB 17 (decide (at_ < buses))) :: (tP 8 5 0) :: (tP 7 4 0) :: (K85m17 at_)) ee af fun hw bq => ?_))))
  refine wf (wC (decide (at_ < buses)) bq (fun bj => ?_) (fun bj => ?_))
  ·
   rw [bj, cond_true] at H
   refine wp_seq (wp_region_from (Rk 0 1 [(tI 21 0), (tP 8 5 0), (tP 7 4 0), (tI 2 at_), (tP 4 1 0)] bq af fun h1 em => ?_))
   refine wf ?_
   obtain ⟨aw, b6, H⟩ := bnd H
   refine wp_mid' (fun a' w' => ∃ (az : Fr) (b2 : Array Value) (a7 : Heap), a' = ⟨b2, []⟩ ∧ Kn 118 (K85e3 b_buses b_from_ b_r_ b_see a b) [] b2 ∧ Mem az a7 (K85e3 b_buses b_from_ b_r_ b_see a b) [⟨[.int .i64 buses], none⟩, ⟨(K85c7 b_buses b_from_ b_r_ b_see), none⟩, ⟨(K85c12 i r_ l f g k m), none⟩, ⟨[.func fn_see fa_see fc_see], none⟩, ⟨[.int .i64 aw.1.a0, .int .i64 aw.1.a1, .int .i64 aw.1.a2, .int .i64 aw.1.a3, .int .i64 d.turns.a0, .int .i64 d.turns.a1, .int .i64 d.turns.a2, .int .i64 d.turns.a3, .bool d.spares.a0, .bool d.spares.a1], some 102⟩, ⟨(K85c1 c), some 104⟩] [] w' ∧ Heap.le h a7 ∧ Fr.Sim B F az ∧ XS aw.2 az a7) ?_ ?_
   ·
    refine wp_block ?_
    refine wp_loop_n (fun cq a' w' => ∃ (x_v10 : Int) (x_v11 : A4int) (x_v12 : σ) (au : Fr) (b3 : Array Value) (ao : Heap), a' = ⟨b3, []⟩ ∧ Kn 118 (K85e3 b_buses b_from_ b_r_ b_see a b) (K85m16 x_v10 at_) b3 ∧ Mem au ao (K85e3 b_buses b_from_ b_r_ b_see a b) [⟨[.int .i64 buses], none⟩, ⟨(K85c7 b_buses b_from_ b_r_ b_see), none⟩, ⟨(K85c12 i r_ l f g k m), none⟩, ⟨[.func fn_see fa_see fc_see], none⟩, ⟨[.int .i64 x_v11.a0, .int .i64 x_v11.a1, .int .i64 x_v11.a2, .int .i64 x_v11.a3, .int .i64 d.turns.a0, .int .i64 d.turns.a1, .int .i64 d.turns.a2, .int .i64 d.turns.a3, .bool d.spares.a0, .bool d.spares.a1], some 102⟩, ⟨(K85c1 c), some 104⟩] [] w' ∧ Heap.le h ao ∧ Fr.Sim B F au ∧ XS x_v12 au ao ∧ cq ≤ n ∧ control_Route_every_1_l1 cq see_ d c at_ buses r_ x_v10 x_v11 x_v12 = some aw) n ?_ ?_
    ·
     exact Exists.intro 0 ⟨d.holds, s, F, _, _, rfl, em.kp, af, (Heap.le_refl _), (Fr.Sim.refl B F), hs, Nat.le_refl _, b6⟩
    ·
     rintro bc _ iw ⟨x_v10, x_v11, x_v12, au, b3, ao, rfl, eu, ba, ak, cn, b8, ha, x⟩
     clear b6
     obtain _ | bc := bc
     ·
      rw [control_Route_every_1_l1] at x; cases x
     rw [control_Route_every_1_l1] at x
     replace hb_buses := hb_buses.mono ak
     replace hc_from_ := hc_from_.mono ak
     replace aa := aa.mono ak
     replace z := z.mono ak
     replace ab := ab.mono ak
     replace hb_r_ := hb_r_.mono ak
     replace hc_see := hc_see.mono ak
     refine wp_seq (wp_region_from (Rk 0 1 ((tB 22 (decide (x_v10 < 3))) :: (K85m16 x_v10 at_)) eu ba fun h5 bs => ?_))
     refine wf (wp_seq (wC (decide (x_v10 < 3)) bs (fun bl => ?_) (fun bl => ?_)))
     ·
      rw [bl, cond_true] at x
      refine wp_skip (wp_seq (wp_block (wp_seq (wp_region_from (Rk 0 2 ((tI 10 x_v10) :: (K85m16 x_v10 at_)) bs ba fun h6 ev => ?_)))))
      refine wf (wp_seq (wp_region_from (Rk 0 3 ((tP 26 4 0) :: (tI 25 x_v10) :: (tI 24 at_) :: (tI 10 x_v10) :: (K85m16 x_v10 at_)) ev ba fun h7 cb => ?_)))
      obtain ⟨x27, ex27, x⟩ := bnd x
      obtain ⟨fn, fs⟩ := rng_some ex27
      refine R_one 3 (.one (.c (.ptr 4 (0 + (at_ : Int).toNat * 1)))) rfl (rfl) rfl (run_indexA (E := 3) cb rfl (by kernel_rfl) (by kernel_rfl) (by rfl) (by rfl) fn fs) (cb.put (by decide) _) fun cz (ew : Kn 118 (K85e3 b_buses b_from_ b_r_ b_see a b) ((tP 27 4 (0 + (at_ : Int).toNat * 1)) :: (tP 26 4 0) :: (tI 25 x_v10) :: (tI 24 at_) :: (tI 10 x_v10) :: (K85m16 x_v10 at_)) cz) => ?_
      obtain ⟨u, c7, x⟩ := bnd x
      obtain ⟨hd, hg, gh⟩ := A4int.setI_some c7
      refine wl fun K hK => ?_
      refine wp_store 4 (0 + (at_ : Int).toNat * 1) (.c (.int .i64 x_v10)) (K85c8 u d) ew ba rfl rfl (by rfl) (by rfl) (by rfl) (by kernel_rfl) (by refine decide_eq_true ?_; show (0 + (at_ : Int).toNat * 1) + 1 ≤ 10; omega) (arr_set (fun (y : Int) => ([.int .i64 y] : List SC)) 1 (fun _ => rfl) [] [.int .i64 d.turns.a0, .int .i64 d.turns.a1, .int .i64 d.turns.a2, .int .i64 d.turns.a3, .bool d.spares.a0, .bool d.spares.a1] x_v11.toL u.toL (at_ : Int).toNat x_v10 gh (show (at_ : Int).toNat < 4 by omega) rfl rfl rfl) fun gq ex (ck : Mem au ao (K85e3 b_buses b_from_ b_r_ b_see a b) [⟨[.int .i64 buses], none⟩, ⟨(K85c7 b_buses b_from_ b_r_ b_see), none⟩, ⟨(K85c12 i r_ l f g k m), none⟩, ⟨[.func fn_see fa_see fc_see], none⟩, ⟨(K85c8 u d), some 102⟩, ⟨(K85c1 c), some 104⟩] [] gq) => hK _ _ ?_
      have ey : Kn 118 (K85e3 b_buses b_from_ b_r_ b_see a b) ((tI 10 x_v10) :: (K85m16 x_v10 at_)) cz := ex.kp
      refine wf (wp_region_from (Rk 0 14 ((tI 41 (IntKind.i64.wrap (at_ + 1))) :: (tA 39 (K85c4 c x_v10)) :: (tA 29 (K85c8 u d)) :: (28, .one (.c (.func (.func 85) #[] #[.pointer (some ⟨b_buses, 0, none⟩), .pointer (some ⟨b_from_, 0, none⟩), .pointer (some ⟨b_r_, 0, none⟩), .pointer (some ⟨b_see, 0, none⟩)]))) :: (K85m16 x_v10 at_)) ey ck fun h8 ez => ?_))
      obtain ⟨x42, ex42, x⟩ := bnd x
      obtain ⟨gz, e7, ds, fw⟩ := ck.lendS hXS b8
      refine wl fun K hK => ?_
      refine wp_callVM (.func (.func 85) #[] #[.pointer (some ⟨b_buses, 0, none⟩), .pointer (some ⟨b_from_, 0, none⟩), .pointer (some ⟨b_r_, 0, none⟩), .pointer (some ⟨b_see, 0, none⟩)]) [.agg (K85c8 u d), .agg (K85c4 c x_v10), .c (.int .i64 (IntKind.i64.wrap (at_ + 1)))] _ ez rfl rfl (by decide) (by rfl) (by rfl) rfl ⟨85, _, _, rfl, fun _ _ => by kernel_rfl, ih bc (by omega) _ _ _ _ _ _ hXS see_ _ _ _ hy _ _ _ _ (Deeds.mk u d.turns d.spares) _ ((rep_pair (rep_pair rep_int (rep_pair rep_int (rep_pair rep_int rep_int))) (rep_pair (rep_pair rep_int (rep_pair rep_int (rep_pair rep_int rep_int))) (rep_pair rep_bool rep_bool))) : rep ao (Deeds.mk u d.turns d.spares) _) (Cost.mk (IntKind.i64.wrap (c.number + (if 1 < x_v10 then 1 else x_v10))) (IntKind.i64.wrap (c.sum + x_v10))) _ ((rep_pair rep_int rep_int) : rep ao (Cost.mk (IntKind.i64.wrap (c.number + (if 1 < x_v10 then 1 else x_v10))) (IntKind.i64.wrap (c.sum + x_v10))) _) (IntKind.i64.wrap (at_ + 1)) buses hb_buses hc_from_ r_ hb_r_ hc_see x_v12 ds e7 _ ex42⟩ fun ik ix dr => ?_
      obtain ⟨rfl, g3, gv, cf, f9, dt, fi⟩ := dr
      obtain ⟨c4, ga, du, cl⟩ := fw _ _ _ _ cf f9 dt fi
      have gb := Fr.Sim.trans cn ga
      refine ⟨.tup [], rfl, fun c0 (e0 : Kn 118 (K85e3 b_buses b_from_ b_r_ b_see a b) ((42, .tup []) :: (tI 41 (IntKind.i64.wrap (at_ + 1))) :: (tA 39 (K85c4 c x_v10)) :: (tA 29 (K85c8 u d)) :: (28, .one (.c (.func (.func 85) #[] #[.pointer (some ⟨b_buses, 0, none⟩), .pointer (some ⟨b_from_, 0, none⟩), .pointer (some ⟨b_r_, 0, none⟩), .pointer (some ⟨b_see, 0, none⟩)]))) :: (K85m16 x_v10 at_)) c0) => hK _ _ ?_⟩
      have e1 : Kn 118 (K85e3 b_buses b_from_ b_r_ b_see a b) (K85m16 x_v10 at_) c0 := e0.kp
      refine wf (wp_region_from (Rk 0 2 [(tI 21 (IntKind.i64.wrap (x_v10 + 1))), (tP 8 5 0), (tP 7 4 0), (tI 2 at_), (tP 4 1 0)] e1 cl fun h9 e2 => ?_))
      refine wf ?_
      exact Exists.intro bc ⟨Nat.lt_succ_self _, Exists.intro (IntKind.i64.wrap (x_v10 + 1)) ⟨u, x42, c4, _, _, rfl, e2.kp, cl, (Heap.le_trans ak cf), gb, du, (by omega), x⟩⟩
     ·
      rw [bl, cond_false] at x
      refine wp_exit ?_
      obtain rfl := Option.some.inj x
      exact Exists.intro au ⟨_, _, rfl, bs.kp, ba, ak, cn, b8⟩
   ·
    rintro _ iy ⟨az, b2, a7, rfl, g7, fj, fa, f8, dq⟩
    obtain rfl := Option.some.inj H
    exact endM_of rfl ⟨rfl, a7, az, fa, f8, dq, ((fj.cutRw 0).cutPl 0 (by kernel_rfl))⟩
  ·
   rw [bj, cond_false] at H
   refine wp_seq (wp_region_from (Rk 0 5 ((tB 44 (decide (at_ < (IntKind.i64.wrap (2 * buses))))) :: (tP 8 5 0) :: (tP 7 4 0) :: (K85m17 at_)) bq af fun ia bt => ?_))
   refine wf (wC (decide (at_ < (IntKind.i64.wrap (2 * buses)))) bt (fun bm => ?_) (fun bm => ?_))
   ·
    rw [bm, cond_true] at H
    refine wp_seq (wp_region_from (Rk 0 1 ((tI 11 (-1)) :: (K85m18 at_)) bt af fun ib e3 => ?_))
    refine wf ?_
    obtain ⟨av, b4, H⟩ := bnd H
    refine wp_mid' (fun a' w' => ∃ (ax : Fr) (bx : Array Value) (a4 : Heap), a' = ⟨bx, []⟩ ∧ Kn 118 (K85e3 b_buses b_from_ b_r_ b_see a b) [] bx ∧ Mem ax a4 (K85e3 b_buses b_from_ b_r_ b_see a b) [⟨[.int .i64 buses], none⟩, ⟨(K85c7 b_buses b_from_ b_r_ b_see), none⟩, ⟨(K85c12 i r_ l f g k m), none⟩, ⟨[.func fn_see fa_see fc_see], none⟩, ⟨[.int .i64 d.holds.a0, .int .i64 d.holds.a1, .int .i64 d.holds.a2, .int .i64 d.holds.a3, .int .i64 av.1.a0, .int .i64 av.1.a1, .int .i64 av.1.a2, .int .i64 av.1.a3, .bool d.spares.a0, .bool d.spares.a1], some 102⟩, ⟨(K85c1 c), some 104⟩] [] w' ∧ Heap.le h a4 ∧ Fr.Sim B F ax ∧ XS av.2 ax a4) ?_ ?_
    ·
     refine wp_block ?_
     refine wp_loop_n (fun co a' w' => ∃ (x_v20 : Int) (x_v21 : A4int) (x_v22 : σ) (al : Fr) (bz : Array Value) (a5 : Heap), a' = ⟨bz, []⟩ ∧ Kn 118 (K85e3 b_buses b_from_ b_r_ b_see a b) (K85m14 x_v20 at_) bz ∧ Mem al a5 (K85e3 b_buses b_from_ b_r_ b_see a b) [⟨[.int .i64 buses], none⟩, ⟨(K85c7 b_buses b_from_ b_r_ b_see), none⟩, ⟨(K85c12 i r_ l f g k m), none⟩, ⟨[.func fn_see fa_see fc_see], none⟩, ⟨(K85c9 d x_v21), some 102⟩, ⟨(K85c1 c), some 104⟩] [] w' ∧ Heap.le h a5 ∧ Fr.Sim B F al ∧ XS x_v22 al a5 ∧ co ≤ n ∧ control_Route_every_1_l2 co see_ d c at_ buses r_ x_v20 x_v21 x_v22 = some av) n ?_ ?_
     ·
      exact Exists.intro (-1) ⟨d.turns, s, F, _, _, rfl, e3.kp, af, (Heap.le_refl _), (Fr.Sim.refl B F), hs, Nat.le_refl _, b4⟩
     ·
      rintro aq _ il ⟨x_v20, x_v21, x_v22, al, bz, a5, rfl, dy, bu, ah, bw, am, g8, p⟩
      clear b4
      obtain _ | aq := aq
      ·
       rw [control_Route_every_1_l2] at p; cases p
      rw [control_Route_every_1_l2] at p
      replace aa := aa.mono ah
      replace z := z.mono ah
      replace ab := ab.mono ah
      refine wp_seq (wp_seq (wp_region_from (Rk 0 2 ((tA 50 (K85c12 i r_ l f g k m)) :: (tI 49 x_v20) :: (K85m14 x_v20 at_)) dy bu fun hh dz => ?_)))
      obtain ⟨x51, ex51, p⟩ := bnd p
      refine wl fun K hK => ?_
      refine wc [.agg (K85c12 i r_ l f g k m)] dz bu (control_Route_places_ok aq bu.has r_ ((rep_pair (rep_slice aa) (rep_pair (rep_pair rep_int rep_int) (rep_pair (rep_slice z) (rep_pair (rep_slice ab) (rep_pair rep_int (rep_pair rep_int (rep_pair rep_int rep_int))))))) : rep a5 r_ _) ex51) fun ic be gm c8 ae ap => ?_
      replace hb_buses := hb_buses.mono (Heap.le_trans ah ae)
      replace hc_from_ := hc_from_.mono (Heap.le_trans ah ae)
      replace aa := aa.mono ae
      replace z := z.mono ae
      replace ab := ab.mono ae
      replace hb_r_ := hb_r_.mono (Heap.le_trans ah ae)
      replace hc_see := hc_see.mono (Heap.le_trans ah ae)
      replace am := hXS.up am ae
      obtain rfl := c8
      refine ⟨.one (.c (.int .i64 x51)), rfl, fun gj (d0 : Kn 118 (K85e3 b_buses b_from_ b_r_ b_see a b) ((tI 51 x51) :: (tA 50 (K85c12 i r_ l f g k m)) :: (tI 49 x_v20) :: (K85m14 x_v20 at_)) gj) => hK _ _ ?_⟩
      refine Rk 3 1 ((tB 52 (decide (x_v20 < x51))) :: (K85m14 x_v20 at_)) d0 ap fun hl bn => ?_
      refine wf (wC (decide (x_v20 < x51)) bn (fun bg => ?_) (fun bg => ?_))
      ·
       rw [bg, cond_true] at p
       refine wp_skip (wp_seq (wp_block (wp_seq (wp_region_G (by kernel_rfl) ?_))))
       replace ap := ap.drew
       refine wpG_of_D [] (K85e3 b_buses b_from_ b_r_ b_see a b) [⟨[.int .i64 buses], none⟩, ⟨(K85c7 b_buses b_from_ b_r_ b_see), none⟩, ⟨(K85c12 i r_ l f g k m), none⟩, ⟨[.func fn_see fa_see fc_see], none⟩, ⟨(K85c9 d x_v21), some 102⟩, ⟨(K85c1 c), some 104⟩] ?_
       refine Dr [0, 1, 2, 3, 4, 5] (dn 5) ((tI 60 (IntKind.i64.wrap (at_ - buses))) :: (tS 57 f r_.buses.length g) :: (tA 55 (K85c12 i r_ l f g k m)) :: (K85m14 x_v20 at_)) bn ap fun hn d2 => ?_
       obtain ⟨x61, ex61, p⟩ := bnd p
       obtain ⟨fk, fo, gd⟩ := idx_some ex61
       obtain ⟨ad, ag, g0, dw, gc, dx⟩ := z.get (by decide) gd
       obtain ⟨_, _, rfl, rfl, ⟨_, _, rfl, rfl, rfl⟩⟩ := gc
       have bv : Mem al be (K85e5 b_buses b_from_ b_r_ b_see a b ad ag at_ buses) [⟨[.int .i64 buses], none⟩, ⟨(K85c7 b_buses b_from_ b_r_ b_see), none⟩, ⟨(K85c12 i r_ l f g k m), none⟩, ⟨[.func fn_see fa_see fc_see], none⟩, ⟨(K85c9 d x_v21), some 102⟩, ⟨(K85c1 c), some 104⟩, ⟨(K85c2 x61), none⟩] [] (World.drew gm) := ap.addPlc (cs := (K85c2 x61)) (fun j c hj => dx j _ (map_get hj)) rfl (by kernel_rfl) (by kernel_rfl)
       refine D_index 6 (IntKind.i64.wrap (at_ - buses)) (K85c2 x61) (fun _ _ _ _ _ h => h) rfl rfl (rfl) rfl (by decide) (by kernel_rfl) (by kernel_rfl) d2 ap.plOk (by rfl) (by rfl) (by rfl) dw (by rfl) fk fo (by kernel_rfl) fun gk (d3 : Kn 118 (K85e5 b_buses b_from_ b_r_ b_see a b ad ag at_ buses) ((tP 61 6 0) :: (tI 60 (IntKind.i64.wrap (at_ - buses))) :: (tS 57 f r_.buses.length g) :: (tA 55 (K85c12 i r_ l f g k m)) :: (K85m14 x_v20 at_)) gk) => ?_
       refine Dr [7, 8] (dn 8) ((tI 63 x_v20) :: (tA 62 (K85c2 x61)) :: (tA 55 (K85c12 i r_ l f g k m)) :: (K85m14 x_v20 at_)) d3 bv fun ho d4 => ?_
       obtain ⟨x64, ex64, p⟩ := bnd p
       refine Dl 9 fun K hK => ?_
       refine wc [.agg (K85c12 i r_ l f g k m), .agg (K85c2 x61), .c (.int .i64 x_v20)] d4 bv (control_Route_turns_ok aq bv.has r_ ((rep_pair (rep_slice aa) (rep_pair (rep_pair rep_int rep_int) (rep_pair (rep_slice z) (rep_pair (rep_slice ab) (rep_pair rep_int (rep_pair rep_int (rep_pair rep_int rep_int))))))) : rep be r_ _) x61 ((rep_pair rep_int (rep_pair rep_int rep_int)) : rep be x61 _) x_v20 ex64) fun ie bf im c9 ai a8 => ?_
       replace hb_buses := hb_buses.mono ai
       replace hc_from_ := hc_from_.mono ai
       replace aa := aa.mono ai
       replace z := z.mono ai
       replace ab := ab.mono ai
       replace hb_r_ := hb_r_.mono ai
       replace hc_see := hc_see.mono ai
       replace am := hXS.up am ai
       obtain rfl := c9
       refine ⟨.one (.c (.bool x64)), rfl, fun cr (d5 : Kn 118 (K85e5 b_buses b_from_ b_r_ b_see a b ad ag at_ buses) ((tB 64 x64) :: (tI 63 x_v20) :: (tA 62 (K85c2 x61)) :: (tA 55 (K85c12 i r_ l f g k m)) :: (K85m14 x_v20 at_)) cr) => hK _ _ a8.plOk ?_⟩
       have bo : Kn 118 (K85e5 b_buses b_from_ b_r_ b_see a b ad ag at_ buses) ((tB 64 x64) :: (K85m14 x_v20 at_)) cr := d5.kp
       refine wpD_end (by kernel_rfl) (wC (x64) bo (fun bh => ?_) (fun bh => ?_))
       ·
        rw [bh, cond_true] at p
        refine wp_seq (wp_region_from (Rk 0 5 ((tP 69 4 4) :: (tI 68 x_v20) :: (tI 67 (IntKind.i64.wrap (at_ - buses))) :: (K85m14 x_v20 at_)) bo a8 fun hp b9 => ?_))
        obtain ⟨x70, ex70, p⟩ := bnd p
        obtain ⟨fl, fp⟩ := rng_some ex70
        refine R_one 5 (.one (.c (.ptr 4 (4 + (IntKind.i64.wrap (at_ - buses) : Int).toNat * 1)))) rfl (rfl) rfl (run_indexA (E := 3) b9 rfl (by kernel_rfl) (by kernel_rfl) (by rfl) (by rfl) fl fp) (b9.put (by decide) _) fun cu (d6 : Kn 118 (K85e5 b_buses b_from_ b_r_ b_see a b ad ag at_ buses) ((tP 70 4 (4 + (IntKind.i64.wrap (at_ - buses) : Int).toNat * 1)) :: (tP 69 4 4) :: (tI 68 x_v20) :: (tI 67 (IntKind.i64.wrap (at_ - buses))) :: (K85m14 x_v20 at_)) cu) => ?_
        obtain ⟨q, c5, p⟩ := bnd p
        obtain ⟨hb, he, gf⟩ := A4int.setI_some c5
        refine wl fun K hK => ?_
        refine wp_store 4 (4 + (IntKind.i64.wrap (at_ - buses) : Int).toNat * 1) (.c (.int .i64 x_v20)) (K85c10 d q) d6 a8 rfl rfl (by rfl) (by rfl) (by rfl) (by kernel_rfl) (by refine decide_eq_true ?_; show (4 + (IntKind.i64.wrap (at_ - buses) : Int).toNat * 1) + 1 ≤ 10; omega) (arr_set (fun (y : Int) => ([.int .i64 y] : List SC)) 1 (fun _ => rfl) [.int .i64 d.holds.a0, .int .i64 d.holds.a1, .int .i64 d.holds.a2, .int .i64 d.holds.a3] [.bool d.spares.a0, .bool d.spares.a1] x_v21.toL q.toL (IntKind.i64.wrap (at_ - buses) : Int).toNat x_v20 gf (show (IntKind.i64.wrap (at_ - buses) : Int).toNat < 4 by omega) rfl rfl rfl) fun gn d7 (cg : Mem al bf (K85e5 b_buses b_from_ b_r_ b_see a b ad ag at_ buses) [⟨[.int .i64 buses], none⟩, ⟨(K85c7 b_buses b_from_ b_r_ b_see), none⟩, ⟨(K85c12 i r_ l f g k m), none⟩, ⟨[.func fn_see fa_see fc_see], none⟩, ⟨(K85c10 d q), some 102⟩, ⟨(K85c1 c), some 104⟩, ⟨(K85c2 x61), none⟩] [] gn) => hK _ _ ?_
        have d8 : Kn 118 (K85e5 b_buses b_from_ b_r_ b_see a b ad ag at_ buses) (K85m14 x_v20 at_) cu := d7.kp
        refine wf (wp_region_from (Rk 0 13 ((tI 83 (IntKind.i64.wrap (at_ + 1))) :: (tA 81 (K85c6 c x_v20)) :: (tA 72 (K85c10 d q)) :: (71, .one (.c (.func (.func 85) #[] #[.pointer (some ⟨b_buses, 0, none⟩), .pointer (some ⟨b_from_, 0, none⟩), .pointer (some ⟨b_r_, 0, none⟩), .pointer (some ⟨b_see, 0, none⟩)]))) :: (K85m14 x_v20 at_)) d8 cg fun hq d9 => ?_))
        obtain ⟨x84, ex84, p⟩ := bnd p
        obtain ⟨gw, e4, dc, ft⟩ := cg.lendS hXS am
        refine wl fun K hK => ?_
        refine wp_callVM (.func (.func 85) #[] #[.pointer (some ⟨b_buses, 0, none⟩), .pointer (some ⟨b_from_, 0, none⟩), .pointer (some ⟨b_r_, 0, none⟩), .pointer (some ⟨b_see, 0, none⟩)]) [.agg (K85c10 d q), .agg (K85c6 c x_v20), .c (.int .i64 (IntKind.i64.wrap (at_ + 1)))] _ d9 rfl rfl (by decide) (by rfl) (by rfl) rfl ⟨85, _, _, rfl, fun _ _ => by kernel_rfl, ih aq (by omega) _ _ _ _ _ _ hXS see_ _ _ _ hy _ _ _ _ (Deeds.mk d.holds q d.spares) _ ((rep_pair (rep_pair rep_int (rep_pair rep_int (rep_pair rep_int rep_int))) (rep_pair (rep_pair rep_int (rep_pair rep_int (rep_pair rep_int rep_int))) (rep_pair rep_bool rep_bool))) : rep bf (Deeds.mk d.holds q d.spares) _) (Cost.mk (IntKind.i64.wrap (c.number + (if 1 < (IntKind.i64.wrap (x_v20 + 1)) then 1 else (IntKind.i64.wrap (x_v20 + 1))))) c.sum) _ ((rep_pair rep_int rep_int) : rep bf (Cost.mk (IntKind.i64.wrap (c.number + (if 1 < (IntKind.i64.wrap (x_v20 + 1)) then 1 else (IntKind.i64.wrap (x_v20 + 1))))) c.sum) _) (IntKind.i64.wrap (at_ + 1)) buses hb_buses hc_from_ r_ hb_r_ hc_see x_v22 dc e4 _ ex84⟩ fun ig io db => ?_
        obtain ⟨rfl, g1, gr, cc, fy, dd, fc⟩ := db
        obtain ⟨c1, fz, de, ch⟩ := ft _ _ _ _ cc fy dd fc
        have f0 := Fr.Sim.trans bw fz
        refine ⟨.tup [], rfl, fun cv (eb : Kn 118 (K85e5 b_buses b_from_ b_r_ b_see a b ad ag at_ buses) ((84, .tup []) :: (tI 83 (IntKind.i64.wrap (at_ + 1))) :: (tA 81 (K85c6 c x_v20)) :: (tA 72 (K85c10 d q)) :: (71, .one (.c (.func (.func 85) #[] #[.pointer (some ⟨b_buses, 0, none⟩), .pointer (some ⟨b_from_, 0, none⟩), .pointer (some ⟨b_r_, 0, none⟩), .pointer (some ⟨b_see, 0, none⟩)]))) :: (K85m14 x_v20 at_)) cv) => hK _ _ ?_⟩
        have ec : Kn 118 (K85e5 b_buses b_from_ b_r_ b_see a b ad ag at_ buses) (K85m14 x_v20 at_) cv := eb.kp
        refine wf (wp_region_from (Rk 0 3 ((tI 11 (IntKind.i64.wrap (x_v20 + 1))) :: (K85m18 at_)) ec ch fun hr ed => ?_))
        refine wf ?_
        exact Exists.intro aq ⟨Nat.lt_succ_self _, Exists.intro (IntKind.i64.wrap (x_v20 + 1)) ⟨q, x84, c1, _, _, rfl, ((ed.keep [11, 8, 7, 2, 3, 4, 5] (by rfl)).cut 6 (by kernel_rfl)), (ch.cutPl 6 (by kernel_rfl)), (Heap.le_trans ah (Heap.le_trans ae (Heap.le_trans ai cc))), f0, de, (by omega), p⟩⟩
       ·
        rw [bh, cond_false] at p
        refine wp_skip (wp_region_from (Rk 0 3 ((tI 11 (IntKind.i64.wrap (x_v20 + 1))) :: (K85m18 at_)) bo a8 fun ht ef => ?_))
        refine wf ?_
        exact Exists.intro aq ⟨Nat.lt_succ_self _, Exists.intro (IntKind.i64.wrap (x_v20 + 1)) ⟨x_v21, x_v22, al, _, _, rfl, ((ef.keep [11, 8, 7, 2, 3, 4, 5] (by rfl)).cut 6 (by kernel_rfl)), (a8.cutPl 6 (by kernel_rfl)), (Heap.le_trans ah (Heap.le_trans ae ai)), bw, am, (by omega), p⟩⟩
      ·
       rw [bg, cond_false] at p
       refine wp_exit ?_
       obtain rfl := Option.some.inj p
       exact Exists.intro al ⟨_, _, rfl, bn.kp, ap, (Heap.le_trans ah ae), bw, am⟩
    ·
     rintro _ ip ⟨ax, bx, a4, rfl, g4, fd, e8, fx, da⟩
     obtain rfl := Option.some.inj H
     exact endM_of rfl ⟨rfl, a4, ax, e8, fx, da, ((fd.cutRw 0).cutPl 0 (by kernel_rfl))⟩
   ·
    rw [bm, cond_false] at H
    refine wp_seq (wp_region_from (Rk 0 9 [(tB 85 (decide (at_ < (IntKind.i64.wrap ((IntKind.i64.wrap (2 * buses)) + ((r_.spares.length : Nat) : Int)))))), (tP 8 5 0), (tP 7 4 0), (tI 2 at_), (tP 3 0 0), (tP 4 1 0), (tP 6 3 0)] bt af fun hu bp => ?_))
    refine wf (wC (decide (at_ < (IntKind.i64.wrap ((IntKind.i64.wrap (2 * buses)) + ((r_.spares.length : Nat) : Int))))) bp (fun bi => ?_) (fun bi => ?_))
    ·
     rw [bi, cond_true] at H
     refine wp_seq (wp_region_from (Rk 0 1 [(tI 94 0), (tP 8 5 0), (tP 7 4 0), (tI 2 at_), (tP 3 0 0), (tP 4 1 0)] bp af fun hv eg => ?_))
     refine wf ?_
     obtain ⟨bd, b5, H⟩ := bnd H
     refine wp_mid' (fun a' w' => ∃ (ay : Fr) (b0 : Array Value) (a6 : Heap), a' = ⟨b0, []⟩ ∧ Kn 118 (K85e3 b_buses b_from_ b_r_ b_see a b) [] b0 ∧ Mem ay a6 (K85e3 b_buses b_from_ b_r_ b_see a b) [⟨[.int .i64 buses], none⟩, ⟨(K85c7 b_buses b_from_ b_r_ b_see), none⟩, ⟨(K85c12 i r_ l f g k m), none⟩, ⟨[.func fn_see fa_see fc_see], none⟩, ⟨[.int .i64 d.holds.a0, .int .i64 d.holds.a1, .int .i64 d.holds.a2, .int .i64 d.holds.a3, .int .i64 d.turns.a0, .int .i64 d.turns.a1, .int .i64 d.turns.a2, .int .i64 d.turns.a3, .bool bd.1.a0, .bool bd.1.a1], some 102⟩, ⟨(K85c1 c), some 104⟩] [] w' ∧ Heap.le h a6 ∧ Fr.Sim B F ay ∧ XS bd.2 ay a6) ?_ ?_
     ·
      refine wp_block ?_
      refine wp_loop_n (fun cp a' w' => ∃ (x_v30 : Int) (x_v31 : A2bool) (x_v32 : σ) (ar : Fr) (b1 : Array Value) (an : Heap), a' = ⟨b1, []⟩ ∧ Kn 118 (K85e3 b_buses b_from_ b_r_ b_see a b) (K85m15 x_v30 at_) b1 ∧ Mem ar an (K85e3 b_buses b_from_ b_r_ b_see a b) [⟨[.int .i64 buses], none⟩, ⟨(K85c7 b_buses b_from_ b_r_ b_see), none⟩, ⟨(K85c12 i r_ l f g k m), none⟩, ⟨[.func fn_see fa_see fc_see], none⟩, ⟨[.int .i64 d.holds.a0, .int .i64 d.holds.a1, .int .i64 d.holds.a2, .int .i64 d.holds.a3, .int .i64 d.turns.a0, .int .i64 d.turns.a1, .int .i64 d.turns.a2, .int .i64 d.turns.a3, .bool x_v31.a0, .bool x_v31.a1], some 102⟩, ⟨(K85c1 c), some 104⟩] [] w' ∧ Heap.le h an ∧ Fr.Sim B F ar ∧ XS x_v32 ar an ∧ cp ≤ n ∧ control_Route_every_1_l3 cp see_ d c at_ buses r_ x_v30 x_v31 x_v32 = some bd) n ?_ ?_
      ·
       exact Exists.intro 0 ⟨d.spares, s, F, _, _, rfl, eg.kp, af, (Heap.le_refl _), (Fr.Sim.refl B F), hs, Nat.le_refl _, b5⟩
      ·
       rintro bb _ iq ⟨x_v30, x_v31, x_v32, ar, b1, an, rfl, eh, a9, aj, cm, b7, g9, v⟩
       clear b5
       obtain _ | bb := bb
       ·
        rw [control_Route_every_1_l3] at v; cases v
       rw [control_Route_every_1_l3] at v
       replace hb_buses := hb_buses.mono aj
       replace hc_from_ := hc_from_.mono aj
       replace aa := aa.mono aj
       replace z := z.mono aj
       replace ab := ab.mono aj
       replace hb_r_ := hb_r_.mono aj
       replace hc_see := hc_see.mono aj
       refine wp_seq (wp_region_from (Rk 0 1 ((tB 95 (decide (x_v30 < 2))) :: (K85m15 x_v30 at_)) eh a9 fun hx br => ?_))
       refine wf (wp_seq (wC (decide (x_v30 < 2)) br (fun bk => ?_) (fun bk => ?_)))
       ·
        rw [bk, cond_true] at v
        refine wp_skip (wp_seq (wp_block (wp_seq (wp_region_from (Rk 0 2 ((tI 12 x_v30) :: (K85m15 x_v30 at_)) br a9 fun hz ei => ?_)))))
        refine wf (wp_seq (wp_region_from (Rk 0 7 ((tP 103 4 8) :: (tB 102 (x_v30 == 1)) :: (tI 100 (IntKind.i64.wrap (at_ - (IntKind.i64.wrap (2 * buses))))) :: (tI 12 x_v30) :: (K85m15 x_v30 at_)) ei a9 fun h0 ca => ?_)))
        obtain ⟨x104, ex104, v⟩ := bnd v
        obtain ⟨fm, fq⟩ := rng_some ex104
        refine R_one 7 (.one (.c (.ptr 4 (8 + (IntKind.i64.wrap (at_ - (IntKind.i64.wrap (2 * buses))) : Int).toNat * 1)))) rfl (rfl) rfl (run_indexA (E := 4) ca rfl (by kernel_rfl) (by kernel_rfl) (by rfl) (by rfl) fm fq) (ca.put (by decide) _) fun cw (ej : Kn 118 (K85e3 b_buses b_from_ b_r_ b_see a b) ((tP 104 4 (8 + (IntKind.i64.wrap (at_ - (IntKind.i64.wrap (2 * buses))) : Int).toNat * 1)) :: (tP 103 4 8) :: (tB 102 (x_v30 == 1)) :: (tI 100 (IntKind.i64.wrap (at_ - (IntKind.i64.wrap (2 * buses))))) :: (tI 12 x_v30) :: (K85m15 x_v30 at_)) cw) => ?_
        obtain ⟨ac, c6, v⟩ := bnd v
        obtain ⟨hc, hf, gg⟩ := A2bool.setI_some c6
        refine wl fun K hK => ?_
        refine wp_store 4 (8 + (IntKind.i64.wrap (at_ - (IntKind.i64.wrap (2 * buses))) : Int).toNat * 1) (.c (.bool (x_v30 == 1))) (K85c11 d ac) ej a9 rfl rfl (by rfl) (by rfl) (by rfl) (by kernel_rfl) (by refine decide_eq_true ?_; show (8 + (IntKind.i64.wrap (at_ - (IntKind.i64.wrap (2 * buses))) : Int).toNat * 1) + 1 ≤ 10; omega) (arr_set (fun (y : Bool) => ([.bool y] : List SC)) 1 (fun _ => rfl) [.int .i64 d.holds.a0, .int .i64 d.holds.a1, .int .i64 d.holds.a2, .int .i64 d.holds.a3, .int .i64 d.turns.a0, .int .i64 d.turns.a1, .int .i64 d.turns.a2, .int .i64 d.turns.a3] [] x_v31.toL ac.toL (IntKind.i64.wrap (at_ - (IntKind.i64.wrap (2 * buses))) : Int).toNat (x_v30 == 1) gg (show (IntKind.i64.wrap (at_ - (IntKind.i64.wrap (2 * buses))) : Int).toNat < 2 by omega) rfl rfl rfl) fun gp ek (ci : Mem ar an (K85e3 b_buses b_from_ b_r_ b_see a b) [⟨[.int .i64 buses], none⟩, ⟨(K85c7 b_buses b_from_ b_r_ b_see), none⟩, ⟨(K85c12 i r_ l f g k m), none⟩, ⟨[.func fn_see fa_see fc_see], none⟩, ⟨(K85c11 d ac), some 102⟩, ⟨(K85c1 c), some 104⟩] [] gp) => hK _ _ ?_
        have el : Kn 118 (K85e3 b_buses b_from_ b_r_ b_see a b) ((tI 12 x_v30) :: (K85m15 x_v30 at_)) cw := ek.kp
        refine wf (wp_region_from (Rk 0 11 ((tI 115 (IntKind.i64.wrap (at_ + 1))) :: (tA 113 [.int .i64 (IntKind.i64.wrap (c.number + x_v30)), .int .i64 c.sum]) :: (tA 106 (K85c11 d ac)) :: (105, .one (.c (.func (.func 85) #[] #[.pointer (some ⟨b_buses, 0, none⟩), .pointer (some ⟨b_from_, 0, none⟩), .pointer (some ⟨b_r_, 0, none⟩), .pointer (some ⟨b_see, 0, none⟩)]))) :: (K85m15 x_v30 at_)) el ci fun h2 en => ?_))
        obtain ⟨x116, ex116, v⟩ := bnd v
        obtain ⟨gx, e5, dh, fu⟩ := ci.lendS hXS b7
        refine wl fun K hK => ?_
        refine wp_callVM (.func (.func 85) #[] #[.pointer (some ⟨b_buses, 0, none⟩), .pointer (some ⟨b_from_, 0, none⟩), .pointer (some ⟨b_r_, 0, none⟩), .pointer (some ⟨b_see, 0, none⟩)]) [.agg (K85c11 d ac), .agg [.int .i64 (IntKind.i64.wrap (c.number + x_v30)), .int .i64 c.sum], .c (.int .i64 (IntKind.i64.wrap (at_ + 1)))] _ en rfl rfl (by decide) (by rfl) (by rfl) rfl ⟨85, _, _, rfl, fun _ _ => by kernel_rfl, ih bb (by omega) _ _ _ _ _ _ hXS see_ _ _ _ hy _ _ _ _ (Deeds.mk d.holds d.turns ac) _ ((rep_pair (rep_pair rep_int (rep_pair rep_int (rep_pair rep_int rep_int))) (rep_pair (rep_pair rep_int (rep_pair rep_int (rep_pair rep_int rep_int))) (rep_pair rep_bool rep_bool))) : rep an (Deeds.mk d.holds d.turns ac) _) (Cost.mk (IntKind.i64.wrap (c.number + x_v30)) c.sum) _ ((rep_pair rep_int rep_int) : rep an (Cost.mk (IntKind.i64.wrap (c.number + x_v30)) c.sum) _) (IntKind.i64.wrap (at_ + 1)) buses hb_buses hc_from_ r_ hb_r_ hc_see x_v32 dh e5 _ ex116⟩ fun ii ir dg => ?_
        obtain ⟨rfl, g2, gs, cd, f2, di, fe⟩ := dg
        obtain ⟨c2, f3, dj, cj⟩ := fu _ _ _ _ cd f2 di fe
        have f4 := Fr.Sim.trans cm f3
        refine ⟨.tup [], rfl, fun cx (eo : Kn 118 (K85e3 b_buses b_from_ b_r_ b_see a b) ((116, .tup []) :: (tI 115 (IntKind.i64.wrap (at_ + 1))) :: (tA 113 [.int .i64 (IntKind.i64.wrap (c.number + x_v30)), .int .i64 c.sum]) :: (tA 106 (K85c11 d ac)) :: (105, .one (.c (.func (.func 85) #[] #[.pointer (some ⟨b_buses, 0, none⟩), .pointer (some ⟨b_from_, 0, none⟩), .pointer (some ⟨b_r_, 0, none⟩), .pointer (some ⟨b_see, 0, none⟩)]))) :: (K85m15 x_v30 at_)) cx) => hK _ _ ?_⟩
        have ep : Kn 118 (K85e3 b_buses b_from_ b_r_ b_see a b) (K85m15 x_v30 at_) cx := eo.kp
        refine wf (wp_region_from (Rk 0 2 [(tI 94 (IntKind.i64.wrap (x_v30 + 1))), (tP 8 5 0), (tP 7 4 0), (tI 2 at_), (tP 3 0 0), (tP 4 1 0)] ep cj fun h3 er => ?_))
        refine wf ?_
        exact Exists.intro bb ⟨Nat.lt_succ_self _, Exists.intro (IntKind.i64.wrap (x_v30 + 1)) ⟨ac, x116, c2, _, _, rfl, er.kp, cj, (Heap.le_trans aj cd), f4, dj, (by omega), v⟩⟩
       ·
        rw [bk, cond_false] at v
        refine wp_exit ?_
        obtain rfl := Option.some.inj v
        exact Exists.intro ar ⟨_, _, rfl, br.kp, a9, aj, cm, b7⟩
     ·
      rintro _ iu ⟨ay, b0, a6, rfl, g5, ff, e9, f1, df⟩
      obtain rfl := Option.some.inj H
      exact endM_of rfl ⟨rfl, a6, ay, e9, f1, df, ((ff.cutRw 0).cutPl 0 (by kernel_rfl))⟩
    ·
     rw [bi, cond_false] at H
     refine wp_region_from (Rk 0 3 [(tA 15 (K85c1 c)), (tA 14 (K85c13 d)), (13, .one (.c (.func fn_see fa_see fc_see)))] bp af fun h4 es => ?_)
     obtain ⟨x16, ex16, H⟩ := bnd H
     obtain ⟨gy, e6, dl, fv⟩ := af.lendS hXS hs
     refine wl fun K hK => ?_
     refine wp_callVM (.func fn_see fa_see fc_see) [.agg (K85c13 d), .agg (K85c1 c)] _ es rfl rfl (by decide) (by rfl) (by rfl) rfl (hy _ _ _ _ d _ ((rep_pair (rep_pair rep_int (rep_pair rep_int (rep_pair rep_int rep_int))) (rep_pair (rep_pair rep_int (rep_pair rep_int (rep_pair rep_int rep_int))) (rep_pair rep_bool rep_bool))) : rep h d _) c _ ((rep_pair rep_int rep_int) : rep h c _) _ dl e6 ex16) fun ij iv dk => ?_
     obtain ⟨rfl, dv, gu, ce, f5, dm, fg⟩ := dk
     obtain ⟨c3, f6, dp, fh⟩ := fv _ _ _ _ ce f5 dm fg
     have f7 := Fr.Sim.trans (Fr.Sim.refl B F) f6
     refine ⟨.tup [], rfl, fun cy (et : Kn 118 (K85e3 b_buses b_from_ b_r_ b_see a b) [(16, .tup []), (tA 15 (K85c1 c)), (tA 14 (K85c13 d)), (13, .one (.c (.func fn_see fa_see fc_see)))] cy) => hK _ _ ?_⟩
     have g6 : Kn 118 (K85e3 b_buses b_from_ b_r_ b_see a b) [] cy := et.kp
     refine wf ?_
     obtain rfl := Option.some.inj H
     exact endM_of rfl ⟨rfl, dv, c3, ce, f7, dp, ((fh.cutRw 0).cutPl 0 (by kernel_rfl))⟩
theorem control_Route_every_1_ok (n : Nat) {F : Fr} {h : Heap} {w : World} {σ : Type} {XS : σ → Fr → Heap → Prop} {B : Nat → Prop} (hXS : SOk XS B) (see_ : σ → Deeds → Cost → Option σ) {fn_see : Fn} {fa_see fc_see : Array Value} (hy : See1 XS B (.func fn_see fa_see fc_see) see_) {b_buses b_from_ b_r_ b_see : Nat} (d : Deeds) {cs_d : List Value} (hx_d : rep h d cs_d) (c : Cost) {cs_c : List Value} (hx_c : rep h c cs_c) (at_ : Int) (buses : Int) (hb_buses : BoxS h b_buses buses) (hc_from_ : CellsAt h b_from_ [.func (.func 85) #[] #[.pointer (some ⟨b_buses, 0, none⟩), .pointer (some ⟨b_from_, 0, none⟩), .pointer (some ⟨b_r_, 0, none⟩), .pointer (some ⟨b_see, 0, none⟩)]]) (r_ : Route) (hb_r_ : BoxS h b_r_ r_) (hc_see : CellsAt h b_see [.func fn_see fa_see fc_see]) (s : σ) (hs : XS s F h) (hm : Mem F h [] [] [] w) {r : σ} (H : control_Route_every_1 n see_ d c at_ buses r_ s = some r) :
  Calls Try.prog 85 #[.agg cs_d.toArray, .agg cs_c.toArray, .int .i64 at_, .pointer (some ⟨b_buses, 0, none⟩), .pointer (some ⟨b_from_, 0, none⟩), .pointer (some ⟨b_r_, 0, none⟩), .pointer (some ⟨b_see, 0, none⟩)] w (SRet XS B F h r) := control_Route_every_1_rec n F h w σ XS B hXS see_ fn_see fa_see fc_see hy b_buses b_from_ b_r_ b_see d cs_d hx_d c cs_c hx_c at_ buses hb_buses hc_from_ r_ hb_r_ hc_see s hs hm r H
abbrev K51c1 (r_ : Route) : List SC := [.int .i64 ((r_.buses.length : Nat) : Int)]
abbrev K51e2 (a b d f : Nat) : Env := [(a, 0), (b, 0), (d, 0), (f, 0)]
abbrev K51c3 : List SC := [.int .i64 0, .int .i64 0, .int .i64 0, .int .i64 0, .int .i64 0, .int .i64 0, .int .i64 0, .int .i64 0, .bool false, .bool false]
abbrev K51c4 (d f a b : Nat) : List SC := [.func (.func 85) #[] #[.pointer (some ⟨d, 0, none⟩), .pointer (some ⟨f, 0, none⟩), .pointer (some ⟨a, 0, none⟩), .pointer (some ⟨b, 0, none⟩)]]
abbrev K51c5 (g : Option Addr) (r_ : Route) (l : Nat) (j : Option Addr) (m : Nat) (k : Option Addr) (o : Nat) : List SC := [.slice g r_.legs.length l, .int .i64 r_.turn.lo, .int .i64 r_.turn.hi, .slice j r_.buses.length m, .slice k r_.spares.length o, .int .i64 r_.unit, .int .i64 r_.gap, .int .i64 r_.fr, .int .i64 r_.to_]
set_option maxRecDepth 100000 in
set_option maxHeartbeats 4000000 in
theorem control_Route_every_ok (n : Nat) {F : Fr} {h : Heap} {w : World} {σ : Type} {XS : σ → Fr → Heap → Prop} {B : Nat → Prop} (hXS : SOk XS B) (see_ : σ → Deeds → Cost → Option σ) {fn_see : Fn} {fa_see fc_see : Array Value} (hy : See1 XS B (.func fn_see fa_see fc_see) see_) (r_ : Route) {cs_r_ : List Value} (hx_r_ : rep h r_ cs_r_) (s : σ) (hs : XS s F h) (hm : Mem F h [] [] [] w) {r : σ} (H : control_Route_every n see_ r_ s = some r) :
  Calls Try.prog 51 #[.agg cs_r_.toArray, .func fn_see fa_see fc_see] w (SRet XS B F h r) := by
 obtain ⟨_, _, rfl, ⟨g, l, rfl, aj⟩, ⟨_, _, rfl, ⟨_, _, rfl, rfl, rfl⟩, ⟨_, _, rfl, ⟨j, m, rfl, ak⟩, ⟨_, _, rfl, ⟨k, o, rfl, al⟩, ⟨_, _, rfl, rfl, ⟨_, _, rfl, rfl, ⟨_, _, rfl, rfl, rfl⟩⟩⟩⟩⟩⟩⟩ := hx_r_
 refine enter' (e := []) 14 [.agg (K51c5 g r_ l j m k o), .c (.func fn_see fa_see fc_see)] Try.func51 rfl rfl rfl rfl fun t hk => ?_
 unfold control_Route_every at H
 refine wp_seq (wp_region_from (wl fun K hK => ?_))
 refine wb (.agg (K51c5 g r_ l j m k o)) hk hm fun a bv bx (a7 : Kn 14 [(a, 0)] [(tP 2 0 0), (tA 0 (K51c5 g r_ l j m k o)), (1, .one (.c (.func fn_see fa_see fc_see)))] bv) (bl : Mem F h [(a, 0)] [⟨(K51c5 g r_ l j m k o), some 43⟩] [] bx) => hK _ _ ?_
 refine wl fun K hK => ?_
 refine wb (.c (.func fn_see fa_see fc_see)) a7 bl fun b ar bz (a8 : Kn 14 [(a, 0), (b, 0)] [(tP 3 1 0), (tP 2 0 0), (tA 0 (K51c5 g r_ l j m k o)), (1, .one (.c (.func fn_see fa_see fc_see)))] ar) (ap : Mem F h [(a, 0), (b, 0)] [⟨(K51c5 g r_ l j m k o), some 43⟩, ⟨[.func fn_see fa_see fc_see], some 107⟩] [] bz) => hK _ _ ?_
 have a9 : Kn 14 [(a, 0), (b, 0)] [(tP 3 1 0), (tP 2 0 0)] ar := a8.kp
 refine wf (wp_seq (wp_region_from (Rk 0 3 [(tI 8 ((r_.buses.length : Nat) : Int)), (tP 3 1 0), (tP 2 0 0)] a9 ap fun b7 ba => ?_)))
 refine wl fun K hK => ?_
 refine wa [.int .i64 0] ba ap fun d au b0 (bb : Kn 14 [(a, 0), (b, 0), (d, 0)] [(tP 4 2 0), (tI 8 ((r_.buses.length : Nat) : Int)), (tP 3 1 0), (tP 2 0 0)] au) (bm : Mem F h [(a, 0), (b, 0), (d, 0)] [⟨(K51c5 g r_ l j m k o), some 43⟩, ⟨[.func fn_see fa_see fc_see], some 107⟩, ⟨[.int .i64 0], some 3⟩] [] b0) => hK _ _ ?_
 refine wl fun K hK => ?_
 refine wst 2 0 (.c (.int .i64 ((r_.buses.length : Nat) : Int))) (K51c1 r_) bb bm fun b1 bc (bn : Mem F h [(a, 0), (b, 0), (d, 0)] [⟨(K51c5 g r_ l j m k o), some 43⟩, ⟨[.func fn_see fa_see fc_see], some 107⟩, ⟨(K51c1 r_), some 3⟩] [] b1) => hK _ _ ?_
 have bd : Kn 14 [(a, 0), (b, 0), (d, 0)] [(tP 4 2 0), (tP 3 1 0), (tP 2 0 0)] au := bc.kp
 refine wf (wp_seq (wp_region_from (wl fun K hK => ?_)))
 refine wa [.nilfunc] bd bn fun f bw aa (be : Kn 14 (K51e2 a b d f) [(tP 5 3 0), (tP 4 2 0), (tP 3 1 0), (tP 2 0 0)] bw) (bo : Mem F h (K51e2 a b d f) [⟨(K51c5 g r_ l j m k o), some 43⟩, ⟨[.func fn_see fa_see fc_see], some 107⟩, ⟨(K51c1 r_), some 3⟩, ⟨[.nilfunc], some 144⟩] [] aa) => hK _ _ ?_
 refine wf (wp_seq (wp_region_from ?_))
 obtain ⟨v, q, am, af⟩ := bo.settlePlc (i := 2) rfl
 replace hs := hXS.up hs q
 replace af : Mem F v (K51e2 a b d f) [⟨(K51c5 g r_ l j m k o), some 43⟩, ⟨[.func fn_see fa_see fc_see], some 107⟩, ⟨(K51c1 r_), none⟩, ⟨[.nilfunc], some 144⟩] [] aa := af
 have ac : BoxS v d (((r_.buses.length : Nat) : Int) : Int) := BoxS.of (e := (K51e2 a b d f)) (cs := (K51c1 r_)) (rep_int : rep v (((r_.buses.length : Nat) : Int) : Int) _) rfl am
 have b4 : CellsAt v d [.int .i64 ((r_.buses.length : Nat) : Int)] := CellsAt.of (e := [(a, 0), (b, 0), (d, 0), (f, 0)]) (cs := [.int .i64 ((r_.buses.length : Nat) : Int)]) rfl am
 obtain ⟨x, p, an, ag⟩ := af.settlePlc (i := 0) rfl
 replace aj := aj.mono (Heap.le_trans q p)
 replace ak := ak.mono (Heap.le_trans q p)
 replace al := al.mono (Heap.le_trans q p)
 replace hs := hXS.up hs p
 replace ag : Mem F x (K51e2 a b d f) [⟨(K51c5 g r_ l j m k o), none⟩, ⟨[.func fn_see fa_see fc_see], some 107⟩, ⟨(K51c1 r_), none⟩, ⟨[.nilfunc], some 144⟩] [] aa := ag
 have ad : BoxS x a (r_ : Route) := BoxS.of (e := (K51e2 a b d f)) (cs := (K51c5 g r_ l j m k o)) ((rep_pair (rep_slice aj) (rep_pair (rep_pair rep_int rep_int) (rep_pair (rep_slice ak) (rep_pair (rep_slice al) (rep_pair rep_int (rep_pair rep_int (rep_pair rep_int rep_int))))))) : rep x (r_ : Route) _) rfl an
 have b5 : CellsAt x a [.slice g r_.legs.length l, .int .i64 r_.turn.lo, .int .i64 r_.turn.hi, .slice j r_.buses.length m, .slice k r_.spares.length o, .int .i64 r_.unit, .int .i64 r_.gap, .int .i64 r_.fr, .int .i64 r_.to_] := CellsAt.of (e := [(a, 0), (b, 0), (d, 0), (f, 0)]) (cs := [.slice g r_.legs.length l, .int .i64 r_.turn.lo, .int .i64 r_.turn.hi, .slice j r_.buses.length m, .slice k r_.spares.length o, .int .i64 r_.unit, .int .i64 r_.gap, .int .i64 r_.fr, .int .i64 r_.to_]) rfl an
 obtain ⟨ab, z, a5, ah⟩ := ag.settlePlc (i := 1) rfl
 replace hs := hXS.up hs z
 replace ah : Mem F ab (K51e2 a b d f) [⟨(K51c5 g r_ l j m k o), none⟩, ⟨[.func fn_see fa_see fc_see], none⟩, ⟨(K51c1 r_), none⟩, ⟨[.nilfunc], some 144⟩] [] aa := ah
 have ae : CellsAt ab b [.func fn_see fa_see fc_see] := CellsAt.of (e := [(a, 0), (b, 0), (d, 0), (f, 0)]) (cs := [.func fn_see fa_see fc_see]) rfl a5
 refine R_func 0 #[] #[.pointer (some ⟨d, 0, none⟩), .pointer (some ⟨f, 0, none⟩), .pointer (some ⟨a, 0, none⟩), .pointer (some ⟨b, 0, none⟩)] be rfl rfl (rfl) rfl (by decide) (by rfl) (by rfl) (by rfl) (by rfl) fun av (bf : Kn 14 (K51e2 a b d f) [(9, .one (.c (.func (.func 85) #[] #[.pointer (some ⟨d, 0, none⟩), .pointer (some ⟨f, 0, none⟩), .pointer (some ⟨a, 0, none⟩), .pointer (some ⟨b, 0, none⟩)]))), (tP 5 3 0), (tP 4 2 0), (tP 3 1 0), (tP 2 0 0)] av) => ?_
 refine wl fun K hK => ?_
 refine wst 3 0 (.c (.func (.func 85) #[] #[.pointer (some ⟨d, 0, none⟩), .pointer (some ⟨f, 0, none⟩), .pointer (some ⟨a, 0, none⟩), .pointer (some ⟨b, 0, none⟩)])) (K51c4 d f a b) bf ah fun ax bg (aq : Mem F ab (K51e2 a b d f) [⟨(K51c5 g r_ l j m k o), none⟩, ⟨[.func fn_see fa_see fc_see], none⟩, ⟨(K51c1 r_), none⟩, ⟨(K51c4 d f a b), some 144⟩] [] ax) => hK _ _ ?_
 have bh : Kn 14 (K51e2 a b d f) [(tP 5 3 0)] av := bg.kp
 refine wf (wp_region_from (Rk 0 3 [(tA 12 [.int .i64 0, .int .i64 0]), (tA 11 K51c3), (10, .one (.c (.func (.func 85) #[] #[.pointer (some ⟨d, 0, none⟩), .pointer (some ⟨f, 0, none⟩), .pointer (some ⟨a, 0, none⟩), .pointer (some ⟨b, 0, none⟩)])))] bh aq fun b8 bi => ?_))
 obtain ⟨y, u, a6, ai⟩ := aq.settlePlc (i := 3) rfl
 replace ac := ac.mono (Heap.le_trans (Heap.le_trans p z) u)
 replace ad := ad.mono (Heap.le_trans z u)
 replace ae := ae.mono u
 replace hs := hXS.up hs u
 replace ai : Mem F y (K51e2 a b d f) [⟨(K51c5 g r_ l j m k o), none⟩, ⟨[.func fn_see fa_see fc_see], none⟩, ⟨(K51c1 r_), none⟩, ⟨(K51c4 d f a b), none⟩] [] ax := ai
 have a4 : CellsAt y f [.func (.func 85) #[] #[.pointer (some ⟨d, 0, none⟩), .pointer (some ⟨f, 0, none⟩), .pointer (some ⟨a, 0, none⟩), .pointer (some ⟨b, 0, none⟩)]] := CellsAt.of (e := [(a, 0), (b, 0), (d, 0), (f, 0)]) (cs := [.func (.func 85) #[] #[.pointer (some ⟨d, 0, none⟩), .pointer (some ⟨f, 0, none⟩), .pointer (some ⟨a, 0, none⟩), .pointer (some ⟨b, 0, none⟩)]]) rfl a6
 obtain ⟨x13, ex13, H⟩ := bnd H
 obtain ⟨b3, bk, a0, br⟩ := ai.lendS hXS hs
 refine wl fun K hK => ?_
 refine wp_callVM (.func (.func 85) #[] #[.pointer (some ⟨d, 0, none⟩), .pointer (some ⟨f, 0, none⟩), .pointer (some ⟨a, 0, none⟩), .pointer (some ⟨b, 0, none⟩)]) [.agg K51c3, .agg [.int .i64 0, .int .i64 0], .c (.int .i64 0)] _ bi rfl rfl (by decide) (by rfl) (by rfl) rfl ⟨85, _, _, rfl, fun _ _ => by kernel_rfl, control_Route_every_1_ok n hXS see_ hy (Deeds.mk (A4int.mk 0 0 0 0) (A4int.mk 0 0 0 0) (A2bool.mk false false)) ((rep_pair (rep_pair rep_int (rep_pair rep_int (rep_pair rep_int rep_int))) (rep_pair (rep_pair rep_int (rep_pair rep_int (rep_pair rep_int rep_int))) (rep_pair rep_bool rep_bool))) : rep y (Deeds.mk (A4int.mk 0 0 0 0) (A4int.mk 0 0 0 0) (A2bool.mk false false)) _) (Cost.mk 0 0) ((rep_pair rep_int rep_int) : rep y (Cost.mk 0 0) _) 0 ((r_.buses.length : Nat) : Int) ac a4 r_ ad ae s a0 bk ex13⟩ fun b9 ca az => ?_
 obtain ⟨rfl, a3, b2, ao, bs, a1, bp⟩ := az
 obtain ⟨ay, bt, a2, bq⟩ := br _ _ _ _ ao bs a1 bp
 have bu := Fr.Sim.trans (Fr.Sim.refl B F) bt
 refine ⟨.tup [], rfl, fun aw (bj : Kn 14 (K51e2 a b d f) [(13, .tup []), (tA 12 [.int .i64 0, .int .i64 0]), (tA 11 K51c3), (10, .one (.c (.func (.func 85) #[] #[.pointer (some ⟨d, 0, none⟩), .pointer (some ⟨f, 0, none⟩), .pointer (some ⟨a, 0, none⟩), .pointer (some ⟨b, 0, none⟩)])))] aw) => hK _ _ ?_⟩
 have b6 : Kn 14 (K51e2 a b d f) [] aw := bj.kp
 refine wf ?_
 obtain rfl := Option.some.inj H
 exact endM_of rfl ⟨rfl, a3, ay, (Heap.le_trans q (Heap.le_trans p (Heap.le_trans z (Heap.le_trans u ao)))), bu, a2, ((bq.cutRw 0).cutPl 0 (by kernel_rfl))⟩
end Go.Proofs.Ytokchpjijlebiaa
