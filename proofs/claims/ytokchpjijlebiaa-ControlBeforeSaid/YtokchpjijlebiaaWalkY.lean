/- Each call computes its plain function: printed by dec.py. -/
import Derived.Test.YtokchpjijlebiaaProg
import Derived.Test.YtokchpjijlebiaaPure
import Derived.Test.YtokchpjijlebiaaWalkP
set_option linter.all false
namespace Go.Proofs.Ytokchpjijlebiaa
open Go Go.RowKit
open Rep (rep)
open KRep (kv)
open VRep (rv)
abbrev K85c1 (c : Cost) : List SC := [.int .i64 c.number, .int .i64 c.sum]
abbrev K85c2 (x61 : Bus) : List SC := [.int .i64 x61.stop, .int .i64 x61.tm.lo, .int .i64 x61.tm.hi]
abbrev K85e3 (b_buses b_from_ b_r_ b_see a b : Nat) : Env := [(b_buses, 0), (b_from_, 0), (b_r_, 0), (b_see, 0), (a, 0), (b, 0)]
abbrev K85c4 (c : Cost) (x_v10 : Int) : List SC := [.int .i64 (IntKind.i64.wrap (c.number + (if 1 < x_v10 then 1 else x_v10))), .int .i64 (IntKind.i64.wrap (c.sum + x_v10))]
abbrev K85e5 (b_buses b_from_ b_r_ b_see a b ad ag : Nat) (at_ buses : Int) : Env := [(b_buses, 0), (b_from_, 0), (b_r_, 0), (b_see, 0), (a, 0), (b, 0), (ad, ag + (IntKind.i64.wrap (at_ - buses) : Int).toNat * 3)]
abbrev K85c6 (c : Cost) (x_v20 : Int) : List SC := [.int .i64 (IntKind.i64.wrap (c.number + (if 1 < (IntKind.i64.wrap (x_v20 + 1)) then 1 else (IntKind.i64.wrap (x_v20 + 1))))), .int .i64 c.sum]
abbrev K85c7 (b_buses b_from_ b_r_ b_see : Nat) : List SC := [.func (.func 85) #[] #[.pointer (some ⟨b_buses, 0, none⟩), .pointer (some ⟨b_from_, 0, none⟩), .pointer (some ⟨b_r_, 0, none⟩), .pointer (some ⟨b_see, 0, none⟩)]]
abbrev K85c8 (z : A4int) (d : Deeds) : List SC := [.int .i64 z.a0, .int .i64 z.a1, .int .i64 z.a2, .int .i64 z.a3, .int .i64 d.turns.a0, .int .i64 d.turns.a1, .int .i64 d.turns.a2, .int .i64 d.turns.a3, .bool d.spares.a0, .bool d.spares.a1]
abbrev K85c9 (d : Deeds) (x_v21 : A4int) : List SC := [.int .i64 d.holds.a0, .int .i64 d.holds.a1, .int .i64 d.holds.a2, .int .i64 d.holds.a3, .int .i64 x_v21.a0, .int .i64 x_v21.a1, .int .i64 x_v21.a2, .int .i64 x_v21.a3, .bool d.spares.a0, .bool d.spares.a1]
abbrev K85c10 (d : Deeds) (x : A4int) : List SC := [.int .i64 d.holds.a0, .int .i64 d.holds.a1, .int .i64 d.holds.a2, .int .i64 d.holds.a3, .int .i64 x.a0, .int .i64 x.a1, .int .i64 x.a2, .int .i64 x.a3, .bool d.spares.a0, .bool d.spares.a1]
abbrev K85c11 (d : Deeds) (ac : A2bool) : List SC := [.int .i64 d.holds.a0, .int .i64 d.holds.a1, .int .i64 d.holds.a2, .int .i64 d.holds.a3, .int .i64 d.turns.a0, .int .i64 d.turns.a1, .int .i64 d.turns.a2, .int .i64 d.turns.a3, .bool ac.a0, .bool ac.a1]
abbrev K85c12 (m : Option Addr) (r_ : Route) (q : Nat) (f : Option Addr) (g : Nat) (p : Option Addr) (u : Nat) : List SC := [.slice m r_.legs.length q, .int .i64 r_.turn.lo, .int .i64 r_.turn.hi, .slice f r_.buses.length g, .slice p r_.spares.length u, .int .i64 r_.unit, .int .i64 r_.gap, .int .i64 r_.fr, .int .i64 r_.to_]
abbrev K85c13 (d : Deeds) : List SC := [.int .i64 d.holds.a0, .int .i64 d.holds.a1, .int .i64 d.holds.a2, .int .i64 d.holds.a3, .int .i64 d.turns.a0, .int .i64 d.turns.a1, .int .i64 d.turns.a2, .int .i64 d.turns.a3, .bool d.spares.a0, .bool d.spares.a1]
abbrev K85m14 (x_v20 at_ : Int) : TM := [(tI 11 x_v20), (tP 8 5 0), (tP 7 4 0), (tI 2 at_), (tP 3 0 0), (tP 4 1 0), (tP 5 2 0)]
abbrev K85m15 (x_v30 at_ : Int) : TM := [(tI 94 x_v30), (tP 8 5 0), (tP 7 4 0), (tI 2 at_), (tP 3 0 0), (tP 4 1 0)]
abbrev K85m16 (x_v10 at_ : Int) : TM := [(tI 21 x_v10), (tP 8 5 0), (tP 7 4 0), (tI 2 at_), (tP 4 1 0)]
abbrev K85m17 (at_ : Int) : TM := [(tI 2 at_), (tP 3 0 0), (tP 4 1 0), (tP 5 2 0), (tP 6 3 0)]
abbrev K85m18 (at_ : Int) : TM := [(tP 8 5 0), (tP 7 4 0), (tI 2 at_), (tP 3 0 0), (tP 4 1 0), (tP 5 2 0)]
set_option maxRecDepth 100000 in
set_option maxHeartbeats 4000000 in
theorem control_Route_every_1_rec (n : Nat) : ∀ (F : Fr) (h : Heap) (w : World) (σ : Type) (XS : σ → Fr → Heap → Prop) (B : Nat → Prop) (hXS : SOk XS B) (see_ : σ → Deeds → Cost → Option σ) (fn_see : Fn) (fa_see fc_see : Array Value) (hy : See1 XS B (.func fn_see fa_see fc_see) see_) (b_buses b_from_ b_r_ b_see : Nat) (d : Deeds) (cs_d : List Value) (hx_d : rep h d cs_d) (c : Cost) (cs_c : List Value) (hx_c : rep h c cs_c) (at_ : Int) (buses : Int) (hb_buses : BoxS h b_buses buses) (hc_from_ : CellsAt h b_from_ [.func (.func 85) #[] #[.pointer (some ⟨b_buses, 0, none⟩), .pointer (some ⟨b_from_, 0, none⟩), .pointer (some ⟨b_r_, 0, none⟩), .pointer (some ⟨b_see, 0, none⟩)]]) (r_ : Route) (hb_r_ : BoxS h b_r_ r_) (hc_see : CellsAt h b_see [.func fn_see fa_see fc_see]) (s : σ) (hs : XS s F h) (hm : Mem F h [] [] [] w) (r : σ) (H : control_Route_every_1 n see_ d c at_ buses r_ s = some r),
  Calls Try.prog 85 #[.agg cs_d.toArray, .agg cs_c.toArray, .int .i64 at_, .pointer (some ⟨b_buses, 0, none⟩), .pointer (some ⟨b_from_, 0, none⟩), .pointer (some ⟨b_r_, 0, none⟩), .pointer (some ⟨b_see, 0, none⟩)] w (SRet XS B F h r) := by
 induction n using Nat.strongRecOn with
 | _ n ih =>
  intro F h w σ XS B hXS see_ fn_see fa_see fc_see hy b_buses b_from_ b_r_ b_see d cs_d hx_d c cs_c hx_c at_ buses hb_buses hc_from_ r_ hb_r_ hc_see s hs hm r H
  obtain _ | n := n
  ·
   rw [control_Route_every_1] at H; cases H
  obtain ⟨_, _, rfl, ⟨_, _, rfl, rfl, ⟨_, _, rfl, rfl, ⟨_, _, rfl, rfl, rfl⟩⟩⟩, ⟨_, _, rfl, ⟨_, _, rfl, rfl, ⟨_, _, rfl, rfl, ⟨_, _, rfl, rfl, rfl⟩⟩⟩, ⟨_, _, rfl, rfl, rfl⟩⟩⟩ := hx_d
  obtain ⟨_, _, rfl, rfl, rfl⟩ := hx_c
  obtain ⟨_, hx_buses, hc_buses⟩ := id hb_buses
  obtain rfl := hx_buses
  obtain ⟨_, hx_r_, hc_r_⟩ := id hb_r_
  obtain ⟨_, _, rfl, ⟨m, q, rfl, k⟩, ⟨_, _, rfl, ⟨_, _, rfl, rfl, rfl⟩, ⟨_, _, rfl, ⟨f, g, rfl, i⟩, ⟨_, _, rfl, ⟨p, u, rfl, l⟩, ⟨_, _, rfl, rfl, ⟨_, _, rfl, rfl, ⟨_, _, rfl, rfl, rfl⟩⟩⟩⟩⟩⟩⟩ := hx_r_
  refine enter' (e := [(b_buses, 0), (b_from_, 0), (b_r_, 0), (b_see, 0)]) 118 [.agg (K85c13 d), .agg (K85c1 c), .c (.int .i64 at_), .c (.ptr 0 0), .c (.ptr 1 0), .c (.ptr 2 0), .c (.ptr 3 0)] Try.func85 rfl rfl rfl rfl fun t hk => ?_
  replace hm := hm.addPlc (o := 0) (cs := [.int .i64 buses]) (fun j c hj => by rw [Nat.zero_add]; exact hc_buses j _ (map_get hj)) rfl (by kernel_rfl) (by kernel_rfl)
  replace hm := hm.addPlc (o := 0) (cs := [.func (.func 85) #[] #[.pointer (some ⟨b_buses, 0, none⟩), .pointer (some ⟨b_from_, 0, none⟩), .pointer (some ⟨b_r_, 0, none⟩), .pointer (some ⟨b_see, 0, none⟩)]]) (fun j c hj => by rw [Nat.zero_add]; exact hc_from_ j _ (map_get hj)) rfl (by kernel_rfl) (by kernel_rfl)
  replace hm := hm.addPlc (o := 0) (cs := [.slice m r_.legs.length q, .int .i64 r_.turn.lo, .int .i64 r_.turn.hi, .slice f r_.buses.length g, .slice p r_.spares.length u, .int .i64 r_.unit, .int .i64 r_.gap, .int .i64 r_.fr, .int .i64 r_.to_]) (fun j c hj => by rw [Nat.zero_add]; exact hc_r_ j _ (map_get hj)) rfl (by kernel_rfl) (by kernel_rfl)
  replace hm := hm.addPlc (o := 0) (cs := [.func fn_see fa_see fc_see]) (fun j c hj => by rw [Nat.zero_add]; exact hc_see j _ (map_get hj)) rfl (by kernel_rfl) (by kernel_rfl)
  replace hm : Mem F h [(b_buses, 0), (b_from_, 0), (b_r_, 0), (b_see, 0)] [⟨[.int .i64 buses], none⟩, ⟨(K85c7 b_buses b_from_ b_r_ b_see), none⟩, ⟨(K85c12 m r_ q f g p u), none⟩, ⟨[.func fn_see fa_see fc_see], none⟩] [] w := hm
  rw [control_Route_every_1] at H
  refine wp_seq (wp_region_from (wpFrom_loud _ rfl (rfl) fun K hK => ?_))
  refine wp_box (.agg (K85c13 d)) hk hm rfl rfl (by decide) (by kernel_rfl) (by kernel_rfl) (by kernel_rfl) fun a gh gk (d3 : Kn 118 [(b_buses, 0), (b_from_, 0), (b_r_, 0), (b_see, 0), (a, 0)] ((tP 7 4 0) :: (tA 0 (K85c13 d)) :: (tA 1 (K85c1 c)) :: (K85m17 at_)) gh) (fa : Mem F h [(b_buses, 0), (b_from_, 0), (b_r_, 0), (b_see, 0), (a, 0)] [⟨[.int .i64 buses], none⟩, ⟨(K85c7 b_buses b_from_ b_r_ b_see), none⟩, ⟨(K85c12 m r_ q f g p u), none⟩, ⟨[.func fn_see fa_see fc_see], none⟩, ⟨(K85c13 d), some 102⟩] [] gk) => hK _ _ ?_
  refine wpFrom_loud _ rfl (rfl) fun K hK => ?_
  refine wp_box (.agg (K85c1 c)) d3 fa rfl rfl (by decide) (by kernel_rfl) (by kernel_rfl) (by kernel_rfl) fun b cw gn (ec : Kn 118 (K85e3 b_buses b_from_ b_r_ b_see a b) ((tP 8 5 0) :: (tP 7 4 0) :: (tA 0 (K85c13 d)) :: (tA 1 (K85c1 c)) :: (K85m17 at_)) cw) (af : Mem F h (K85e3 b_buses b_from_ b_r_ b_see a b) [⟨[.int .i64 buses], none⟩, ⟨(K85c7 b_buses b_from_ b_r_ b_see), none⟩, ⟨(K85c12 m r_ q f g p u), none⟩, ⟨[.func fn_see fa_see fc_see], none⟩, ⟨(K85c13 d), some 102⟩, ⟨(K85c1 c), some 104⟩] [] gn) => hK _ _ ?_
  have eg : Kn 118 (K85e3 b_buses b_from_ b_r_ b_see a b) ((tP 8 5 0) :: (tP 7 4 0) :: (K85m17 at_)) cw := ec.keep [8, 7, 2, 3, 4, 5, 6] (by rfl)
  refine wpFrom_end (by decide) (wp_block (wp_seq (wp_region_from (R_runk 0 4 [17, 8, 7, 2, 3, 4, 5, 6] ((tB 17 (decide (at_ < buses))) :: (tP 8 5 0) :: (tP 7 4 0) :: (K85m17 at_)) eg af.plOk (by kernel_rfl) fun hv bx => ?_))))
  refine wpFrom_end (by decide) (wp_cond_sv (decide (at_ < buses)) bx (by kernel_rfl) (fun bq => ?_) (fun bq => ?_))
  ·
   rw [bq, cond_true] at H
   refine wp_seq (wp_region_from (R_runk 0 1 [21, 8, 7, 2, 4] [(tI 21 0), (tP 8 5 0), (tP 7 4 0), (tI 2 at_), (tP 4 1 0)] bx af.plOk (by kernel_rfl) fun h0 eo => ?_))
   refine wpFrom_end (by decide) ?_
   obtain ⟨a7, cd, H⟩ := bnd H
   refine wp_mid' (fun a' w' => ∃ (ba : Fr) (b9 : Array Value) (be : Heap), a' = ⟨b9, []⟩ ∧ Kn 118 (K85e3 b_buses b_from_ b_r_ b_see a b) [] b9 ∧ Mem ba be (K85e3 b_buses b_from_ b_r_ b_see a b) [⟨[.int .i64 buses], none⟩, ⟨(K85c7 b_buses b_from_ b_r_ b_see), none⟩, ⟨(K85c12 m r_ q f g p u), none⟩, ⟨[.func fn_see fa_see fc_see], none⟩, ⟨[.int .i64 a7.1.a0, .int .i64 a7.1.a1, .int .i64 a7.1.a2, .int .i64 a7.1.a3, .int .i64 d.turns.a0, .int .i64 d.turns.a1, .int .i64 d.turns.a2, .int .i64 d.turns.a3, .bool d.spares.a0, .bool d.spares.a1], some 102⟩, ⟨(K85c1 c), some 104⟩] [] w' ∧ Heap.le h be ∧ Fr.Sim B F ba ∧ XS a7.2 ba be) ?_ ?_
   ·
    refine wp_block ?_
    refine wp_loop_n (fun cu a' w' => ∃ (x_v10 : Int) (x_v11 : A4int) (x_v12 : σ) (a5 : Fr) (ca : Array Value) (ax : Heap), a' = ⟨ca, []⟩ ∧ Kn 118 (K85e3 b_buses b_from_ b_r_ b_see a b) (K85m16 x_v10 at_) ca ∧ Mem a5 ax (K85e3 b_buses b_from_ b_r_ b_see a b) [⟨[.int .i64 buses], none⟩, ⟨(K85c7 b_buses b_from_ b_r_ b_see), none⟩, ⟨(K85c12 m r_ q f g p u), none⟩, ⟨[.func fn_see fa_see fc_see], none⟩, ⟨[.int .i64 x_v11.a0, .int .i64 x_v11.a1, .int .i64 x_v11.a2, .int .i64 x_v11.a3, .int .i64 d.turns.a0, .int .i64 d.turns.a1, .int .i64 d.turns.a2, .int .i64 d.turns.a3, .bool d.spares.a0, .bool d.spares.a1], some 102⟩, ⟨(K85c1 c), some 104⟩] [] w' ∧ Heap.le h ax ∧ Fr.Sim B F a5 ∧ XS x_v12 a5 ax ∧ cu ≤ n ∧ control_Route_every_1_l1 cu see_ d c at_ buses r_ x_v10 x_v11 x_v12 = some a7) n ?_ ?_
    ·
     exact Exists.intro 0 ⟨d.holds, s, F, _, _, rfl, (eo.keep [21, 8, 7, 2, 4] (by rfl)), af, (Heap.le_refl _), (Fr.Sim.refl B F), hs, Nat.le_refl _, cd⟩
    ·
     rintro bj _ iv ⟨x_v10, x_v11, x_v12, a5, ca, ax, rfl, ew, bh, an, cq, cf, g9, ab⟩
     clear cd
     obtain _ | bj := bj
     ·
      rw [control_Route_every_1_l1] at ab; cases ab
     rw [control_Route_every_1_l1] at ab
     replace hb_buses := hb_buses.mono an
     replace hc_from_ := hc_from_.mono an
     replace k := k.mono an
     replace i := i.mono an
     replace l := l.mono an
     replace hb_r_ := hb_r_.mono an
     replace hc_see := hc_see.mono an
     refine wp_seq (wp_region_from (R_runk 0 1 [22, 21, 8, 7, 2, 4] ((tB 22 (decide (x_v10 < 3))) :: (K85m16 x_v10 at_)) ew bh.plOk (by kernel_rfl) fun h4 b0 => ?_))
     refine wpFrom_end (by decide) (wp_seq (wp_cond_sv (decide (x_v10 < 3)) b0 (by kernel_rfl) (fun bs => ?_) (fun bs => ?_)))
     ·
      rw [bs, cond_true] at ab
      refine wp_skip (wp_seq (wp_block (wp_seq (wp_region_from (R_runk 0 2 [10, 21, 8, 7, 2, 4] ((tI 10 x_v10) :: (K85m16 x_v10 at_)) b0 bh.plOk (by kernel_rfl) fun h5 ex => ?_)))))
      refine wpFrom_end (by decide) (wp_seq (wp_region_from (R_runk 0 3 [26, 25, 24, 10, 21, 8, 7, 2, 4] ((tP 26 4 0) :: (tI 25 x_v10) :: (tI 24 at_) :: (tI 10 x_v10) :: (K85m16 x_v10 at_)) ex bh.plOk (by kernel_rfl) fun h6 ci => ?_)))
      obtain ⟨x27, ex27, ab⟩ := bnd ab
      obtain ⟨fm, fq⟩ := rng_some ex27
      refine R_one 3 (.one (.c (.ptr 4 (0 + (at_ : Int).toNat * 1)))) rfl (rfl) rfl (run_indexA (E := 3) ci rfl (by kernel_rfl) (by kernel_rfl) (by rfl) (by rfl) fm fq) (ci.put (by decide) _) fun c2 (ey : Kn 118 (K85e3 b_buses b_from_ b_r_ b_see a b) ((tP 27 4 (0 + (at_ : Int).toNat * 1)) :: (tP 26 4 0) :: (tI 25 x_v10) :: (tI 24 at_) :: (tI 10 x_v10) :: (K85m16 x_v10 at_)) c2) => ?_
      obtain ⟨z, da, ab⟩ := bnd ab
      obtain ⟨hc, hf, gg⟩ := A4int.setI_some da
      refine wpFrom_loud _ rfl (rfl) fun K hK => ?_
      refine wp_store 4 (0 + (at_ : Int).toNat * 1) (.c (.int .i64 x_v10)) (K85c8 z d) ey bh rfl rfl (by rfl) (by rfl) (by rfl) (by kernel_rfl) (by refine decide_eq_true ?_; show (0 + (at_ : Int).toNat * 1) + 1 ≤ 10; omega) (arr_set (fun (y : Int) => ([.int .i64 y] : List SC)) 1 (fun _ => rfl) [] [.int .i64 d.turns.a0, .int .i64 d.turns.a1, .int .i64 d.turns.a2, .int .i64 d.turns.a3, .bool d.spares.a0, .bool d.spares.a1] x_v11.toL z.toL (at_ : Int).toNat x_v10 gg (show (at_ : Int).toNat < 4 by omega) rfl rfl rfl) fun gp ez (cn : Mem a5 ax (K85e3 b_buses b_from_ b_r_ b_see a b) [⟨[.int .i64 buses], none⟩, ⟨(K85c7 b_buses b_from_ b_r_ b_see), none⟩, ⟨(K85c12 m r_ q f g p u), none⟩, ⟨[.func fn_see fa_see fc_see], none⟩, ⟨(K85c8 z d), some 102⟩, ⟨(K85c1 c), some 104⟩] [] gp) => hK _ _ ?_
      have e0 : Kn 118 (K85e3 b_buses b_from_ b_r_ b_see a b) ((tI 10 x_v10) :: (K85m16 x_v10 at_)) c2 := ez.keep [10, 21, 8, 7, 2, 4] (by rfl)
      refine wpFrom_end (by decide) (wp_region_from (R_runk 0 14 [41, 39, 29, 28, 21, 8, 7, 2, 4] ((tI 41 (IntKind.i64.wrap (at_ + 1))) :: (tA 39 (K85c4 c x_v10)) :: (tA 29 (K85c8 z d)) :: (28, .one (.c (.func (.func 85) #[] #[.pointer (some ⟨b_buses, 0, none⟩), .pointer (some ⟨b_from_, 0, none⟩), .pointer (some ⟨b_r_, 0, none⟩), .pointer (some ⟨b_see, 0, none⟩)]))) :: (K85m16 x_v10 at_)) e0 cn.plOk (by kernel_rfl) fun h7 e1 => ?_))
      obtain ⟨x42, ex42, ab⟩ := bnd ab
      obtain ⟨gy, e9, du, fv⟩ := cn.lendS hXS cf
      refine wpFrom_loud _ rfl (rfl) fun K hK => ?_
      refine wp_callVM (.func (.func 85) #[] #[.pointer (some ⟨b_buses, 0, none⟩), .pointer (some ⟨b_from_, 0, none⟩), .pointer (some ⟨b_r_, 0, none⟩), .pointer (some ⟨b_see, 0, none⟩)]) [.agg (K85c8 z d), .agg (K85c4 c x_v10), .c (.int .i64 (IntKind.i64.wrap (at_ + 1)))] _ e1 rfl rfl (by decide) (by rfl) (by rfl) rfl ⟨85, _, _, rfl, fun _ _ => by kernel_rfl, ih bj (by omega) _ _ _ _ _ _ hXS see_ _ _ _ hy _ _ _ _ (Deeds.mk z d.turns d.spares) _ ((rep_pair (rep_pair rep_int (rep_pair rep_int (rep_pair rep_int rep_int))) (rep_pair (rep_pair rep_int (rep_pair rep_int (rep_pair rep_int rep_int))) (rep_pair rep_bool rep_bool))) : rep ax (Deeds.mk z d.turns d.spares) _) (Cost.mk (IntKind.i64.wrap (c.number + (if 1 < x_v10 then 1 else x_v10))) (IntKind.i64.wrap (c.sum + x_v10))) _ ((rep_pair rep_int rep_int) : rep ax (Cost.mk (IntKind.i64.wrap (c.number + (if 1 < x_v10 then 1 else x_v10))) (IntKind.i64.wrap (c.sum + x_v10))) _) (IntKind.i64.wrap (at_ + 1)) buses hb_buses hc_from_ r_ hb_r_ hc_see x_v12 du e9 _ ex42⟩ fun ij iw dt => ?_
      obtain ⟨rfl, g2, gu, ao, f8, dv, fh⟩ := dt
      obtain ⟨c7, f9, dw, co⟩ := fv _ _ _ _ ao f8 dv fh
      have ga := Fr.Sim.trans cq f9
      replace hb_buses := hb_buses.mono ao
      replace hc_from_ := hc_from_.mono ao
      replace k := k.mono ao
      replace i := i.mono ao
      replace l := l.mono ao
      replace hb_r_ := hb_r_.mono ao
      replace hc_see := hc_see.mono ao
      refine ⟨.tup [], rfl, fun c3 (e2 : Kn 118 (K85e3 b_buses b_from_ b_r_ b_see a b) ((42, .tup []) :: (tI 41 (IntKind.i64.wrap (at_ + 1))) :: (tA 39 (K85c4 c x_v10)) :: (tA 29 (K85c8 z d)) :: (28, .one (.c (.func (.func 85) #[] #[.pointer (some ⟨b_buses, 0, none⟩), .pointer (some ⟨b_from_, 0, none⟩), .pointer (some ⟨b_r_, 0, none⟩), .pointer (some ⟨b_see, 0, none⟩)]))) :: (K85m16 x_v10 at_)) c3) => hK _ _ ?_⟩
      have e3 : Kn 118 (K85e3 b_buses b_from_ b_r_ b_see a b) (K85m16 x_v10 at_) c3 := e2.keep [21, 8, 7, 2, 4] (by rfl)
      refine wpFrom_end (by decide) (wp_region_from (R_runk 0 2 [21, 8, 7, 2, 4] [(tI 21 (IntKind.i64.wrap (x_v10 + 1))), (tP 8 5 0), (tP 7 4 0), (tI 2 at_), (tP 4 1 0)] e3 co.plOk (by kernel_rfl) fun h8 e4 => ?_))
      refine wpFrom_end (by decide) ?_
      exact Exists.intro bj ⟨Nat.lt_succ_self _, Exists.intro (IntKind.i64.wrap (x_v10 + 1)) ⟨z, x42, c7, _, _, rfl, (e4.keep [21, 8, 7, 2, 4] (by rfl)), co, (Heap.le_trans an ao), ga, dw, (by omega), ab⟩⟩
     ·
      rw [bs, cond_false] at ab
      refine wp_exit ?_
      obtain rfl := Option.some.inj ab
      exact Exists.intro a5 ⟨_, _, rfl, (b0.keep [] (by rfl)), bh, an, cq, cf⟩
   ·
    rintro _ ix ⟨ba, b9, be, rfl, g6, fi, au, f7, ds⟩
    replace hb_buses := hb_buses.mono au
    replace hc_from_ := hc_from_.mono au
    replace k := k.mono au
    replace i := i.mono au
    replace l := l.mono au
    replace hb_r_ := hb_r_.mono au
    replace hc_see := hc_see.mono au
    obtain rfl := Option.some.inj H
    exact endM_of rfl ⟨rfl, be, ba, au, f7, ds, ((fi.cutRw 0).cutPl 0 (by kernel_rfl))⟩
  ·
   rw [bq, cond_false] at H
   refine wp_seq (wp_region_from (R_runk 0 5 [44, 8, 7, 2, 3, 4, 5, 6] ((tB 44 (decide (at_ < (IntKind.i64.wrap (2 * buses))))) :: (tP 8 5 0) :: (tP 7 4 0) :: (K85m17 at_)) bx af.plOk (by kernel_rfl) fun h9 b1 => ?_))
   refine wpFrom_end (by decide) (wp_cond_sv (decide (at_ < (IntKind.i64.wrap (2 * buses)))) b1 (by kernel_rfl) (fun bt => ?_) (fun bt => ?_))
   ·
    rw [bt, cond_true] at H
    refine wp_seq (wp_region_from (R_runk 0 1 [11, 8, 7, 2, 3, 4, 5] ((tI 11 (-1)) :: (K85m18 at_)) b1 af.plOk (by kernel_rfl) fun ia e5 => ?_))
    refine wpFrom_end (by decide) ?_
    obtain ⟨a6, cb, H⟩ := bnd H
    refine wp_mid' (fun a' w' => ∃ (a8 : Fr) (b5 : Array Value) (bb : Heap), a' = ⟨b5, []⟩ ∧ Kn 118 (K85e3 b_buses b_from_ b_r_ b_see a b) [] b5 ∧ Mem a8 bb (K85e3 b_buses b_from_ b_r_ b_see a b) [⟨[.int .i64 buses], none⟩, ⟨(K85c7 b_buses b_from_ b_r_ b_see), none⟩, ⟨(K85c12 m r_ q f g p u), none⟩, ⟨[.func fn_see fa_see fc_see], none⟩, ⟨[.int .i64 d.holds.a0, .int .i64 d.holds.a1, .int .i64 d.holds.a2, .int .i64 d.holds.a3, .int .i64 a6.1.a0, .int .i64 a6.1.a1, .int .i64 a6.1.a2, .int .i64 a6.1.a3, .bool d.spares.a0, .bool d.spares.a1], some 102⟩, ⟨(K85c1 c), some 104⟩] [] w' ∧ Heap.le h bb ∧ Fr.Sim B F a8 ∧ XS a6.2 a8 bb) ?_ ?_
    ·
     refine wp_block ?_
     refine wp_loop_n (fun cr a' w' => ∃ (x_v20 : Int) (x_v21 : A4int) (x_v22 : σ) (ap : Fr) (b6 : Array Value) (bc : Heap), a' = ⟨b6, []⟩ ∧ Kn 118 (K85e3 b_buses b_from_ b_r_ b_see a b) (K85m14 x_v20 at_) b6 ∧ Mem ap bc (K85e3 b_buses b_from_ b_r_ b_see a b) [⟨[.int .i64 buses], none⟩, ⟨(K85c7 b_buses b_from_ b_r_ b_see), none⟩, ⟨(K85c12 m r_ q f g p u), none⟩, ⟨[.func fn_see fa_see fc_see], none⟩, ⟨(K85c9 d x_v21), some 102⟩, ⟨(K85c1 c), some 104⟩] [] w' ∧ Heap.le h bc ∧ Fr.Sim B F ap ∧ XS x_v22 ap bc ∧ cr ≤ n ∧ control_Route_every_1_l2 cr see_ d c at_ buses r_ x_v20 x_v21 x_v22 = some a6) n ?_ ?_
     ·
      exact Exists.intro (-1) ⟨d.turns, s, F, _, _, rfl, (e5.keep [11, 8, 7, 2, 3, 4, 5] (by rfl)), af, (Heap.le_refl _), (Fr.Sim.refl B F), hs, Nat.le_refl _, cb⟩
     ·
      rintro az _ ik ⟨x_v20, x_v21, x_v22, ap, b6, bc, rfl, d0, b2, ah, b4, av, g7, v⟩
      clear cb
      obtain _ | az := az
      ·
       rw [control_Route_every_1_l2] at v; cases v
      rw [control_Route_every_1_l2] at v
      replace hb_buses := hb_buses.mono ah
      replace hc_from_ := hc_from_.mono ah
      replace k := k.mono ah
      replace i := i.mono ah
      replace l := l.mono ah
      replace hb_r_ := hb_r_.mono ah
      replace hc_see := hc_see.mono ah
      refine wp_seq (wp_seq (wp_region_from (R_runk 0 2 [50, 49, 11, 8, 7, 2, 3, 4, 5] ((tA 50 (K85c12 m r_ q f g p u)) :: (tI 49 x_v20) :: (K85m14 x_v20 at_)) d0 b2.plOk (by kernel_rfl) fun hg d1 => ?_)))
      obtain ⟨x51, ex51, v⟩ := bnd v
      refine wpFrom_loud _ rfl (rfl) fun K hK => ?_
      refine wp_call [.agg (K85c12 m r_ q f g p u)] _ d1 b2 rfl rfl (by decide) (by rfl) rfl (fun _ _ => by kernel_rfl) (control_Route_places_ok az b2.has r_ ((rep_pair (rep_slice k) (rep_pair (rep_pair rep_int rep_int) (rep_pair (rep_slice i) (rep_pair (rep_slice l) (rep_pair rep_int (rep_pair rep_int (rep_pair rep_int rep_int))))))) : rep bc r_ _) ex51) fun ib bl gl db ae ay => ?_
      replace hb_buses := hb_buses.mono ae
      replace hc_from_ := hc_from_.mono ae
      replace k := k.mono ae
      replace i := i.mono ae
      replace l := l.mono ae
      replace hb_r_ := hb_r_.mono ae
      replace hc_see := hc_see.mono ae
      replace av := hXS.up av ae
      obtain rfl := db
      refine ⟨.one (.c (.int .i64 x51)), rfl, fun gi (d2 : Kn 118 (K85e3 b_buses b_from_ b_r_ b_see a b) ((tI 51 x51) :: (tA 50 (K85c12 m r_ q f g p u)) :: (tI 49 x_v20) :: (K85m14 x_v20 at_)) gi) => hK _ _ ?_⟩
      refine R_runk 3 1 [52, 11, 8, 7, 2, 3, 4, 5] ((tB 52 (decide (x_v20 < x51))) :: (K85m14 x_v20 at_)) d2 ay.plOk (by kernel_rfl) fun hh bu => ?_
      refine wpFrom_end (by decide) (wp_cond_sv (decide (x_v20 < x51)) bu (by kernel_rfl) (fun bn => ?_) (fun bn => ?_))
      ·
       rw [bn, cond_true] at v
       refine wp_skip (wp_seq (wp_block (wp_seq (wp_region_G (by kernel_rfl) ?_))))
       replace ay := ay.drew
       refine wpG_of_D [] (K85e3 b_buses b_from_ b_r_ b_see a b) [⟨[.int .i64 buses], none⟩, ⟨(K85c7 b_buses b_from_ b_r_ b_see), none⟩, ⟨(K85c12 m r_ q f g p u), none⟩, ⟨[.func fn_see fa_see fc_see], none⟩, ⟨(K85c9 d x_v21), some 102⟩, ⟨(K85c1 c), some 104⟩] ?_
       refine D_run [0, 1, 2, 3, 4, 5] [5, 4, 3, 2, 1, 0] [60, 57, 55, 11, 8, 7, 2, 3, 4, 5] ((tI 60 (IntKind.i64.wrap (at_ - buses))) :: (tS 57 f r_.buses.length g) :: (tA 55 (K85c12 m r_ q f g p u)) :: (K85m14 x_v20 at_)) (fun _ _ _ _ _ h => h) bu ay.plOk (by kernel_rfl) (by rfl) (by kernel_rfl) fun hl d4 => ?_
       obtain ⟨x61, ex61, v⟩ := bnd v
       obtain ⟨fj, fn, gc⟩ := idx_some ex61
       obtain ⟨ad, ag, gz, dy, gb, dz⟩ := i.get (by decide) gc
       obtain ⟨_, _, rfl, rfl, ⟨_, _, rfl, rfl, rfl⟩⟩ := gb
       have b3 : Mem ap bl (K85e5 b_buses b_from_ b_r_ b_see a b ad ag at_ buses) [⟨[.int .i64 buses], none⟩, ⟨(K85c7 b_buses b_from_ b_r_ b_see), none⟩, ⟨(K85c12 m r_ q f g p u), none⟩, ⟨[.func fn_see fa_see fc_see], none⟩, ⟨(K85c9 d x_v21), some 102⟩, ⟨(K85c1 c), some 104⟩, ⟨(K85c2 x61), none⟩] [] (World.drew gl) := ay.addPlc (cs := (K85c2 x61)) (fun j c hj => dz j _ (map_get hj)) rfl (by kernel_rfl) (by kernel_rfl)
       refine D_index 6 (IntKind.i64.wrap (at_ - buses)) (K85c2 x61) (fun _ _ _ _ _ h => h) rfl rfl (rfl) rfl (by decide) (by kernel_rfl) (by kernel_rfl) d4 ay.plOk (by rfl) (by rfl) (by rfl) dy (by rfl) fj fn (by kernel_rfl) fun gj (d5 : Kn 118 (K85e5 b_buses b_from_ b_r_ b_see a b ad ag at_ buses) ((tP 61 6 0) :: (tI 60 (IntKind.i64.wrap (at_ - buses))) :: (tS 57 f r_.buses.length g) :: (tA 55 (K85c12 m r_ q f g p u)) :: (K85m14 x_v20 at_)) gj) => ?_
       refine D_run [7, 8] [8, 7, 6, 5, 4, 3, 2, 1, 0] [63, 62, 55, 11, 8, 7, 2, 3, 4, 5] ((tI 63 x_v20) :: (tA 62 (K85c2 x61)) :: (tA 55 (K85c12 m r_ q f g p u)) :: (K85m14 x_v20 at_)) (fun _ _ _ _ _ h => h) d5 b3.plOk (by kernel_rfl) (by rfl) (by kernel_rfl) fun hn d6 => ?_
       obtain ⟨x64, ex64, v⟩ := bnd v
       refine D_loud 9 rfl (by kernel_rfl) (by decide) (rfl) fun K hK => ?_
       refine wp_call [.agg (K85c12 m r_ q f g p u), .agg (K85c2 x61), .c (.int .i64 x_v20)] _ d6 b3 rfl rfl (by decide) (by rfl) rfl (fun _ _ => by kernel_rfl) (control_Route_turns_ok az b3.has r_ ((rep_pair (rep_slice k) (rep_pair (rep_pair rep_int rep_int) (rep_pair (rep_slice i) (rep_pair (rep_slice l) (rep_pair rep_int (rep_pair rep_int (rep_pair rep_int rep_int))))))) : rep bl r_ _) x61 ((rep_pair rep_int (rep_pair rep_int rep_int)) : rep bl x61 _) x_v20 ex64) fun ic bm il dc ai bf => ?_
       replace hb_buses := hb_buses.mono ai
       replace hc_from_ := hc_from_.mono ai
       replace k := k.mono ai
       replace i := i.mono ai
       replace l := l.mono ai
       replace hb_r_ := hb_r_.mono ai
       replace hc_see := hc_see.mono ai
       replace av := hXS.up av ai
       obtain rfl := dc
       refine ⟨.one (.c (.bool x64)), rfl, fun cv (d7 : Kn 118 (K85e5 b_buses b_from_ b_r_ b_see a b ad ag at_ buses) ((tB 64 x64) :: (tI 63 x_v20) :: (tA 62 (K85c2 x61)) :: (tA 55 (K85c12 m r_ q f g p u)) :: (K85m14 x_v20 at_)) cv) => hK _ _ bf.plOk ?_⟩
       have bv : Kn 118 (K85e5 b_buses b_from_ b_r_ b_see a b ad ag at_ buses) ((tB 64 x64) :: (K85m14 x_v20 at_)) cv := d7.keep [64, 11, 8, 7, 2, 3, 4, 5] (by rfl)
       refine wpD_end (by kernel_rfl) (wp_cond_sv (x64) bv (by kernel_rfl) (fun bo => ?_) (fun bo => ?_))
       ·
        rw [bo, cond_true] at v
        refine wp_seq (wp_region_from (R_runk 0 5 [69, 68, 67, 11, 8, 7, 2, 3, 4, 5] ((tP 69 4 4) :: (tI 68 x_v20) :: (tI 67 (IntKind.i64.wrap (at_ - buses))) :: (K85m14 x_v20 at_)) bv bf.plOk (by kernel_rfl) fun ho cg => ?_))
        obtain ⟨x70, ex70, v⟩ := bnd v
        obtain ⟨fk, fo⟩ := rng_some ex70
        refine R_one 5 (.one (.c (.ptr 4 (4 + (IntKind.i64.wrap (at_ - buses) : Int).toNat * 1)))) rfl (rfl) rfl (run_indexA (E := 3) cg rfl (by kernel_rfl) (by kernel_rfl) (by rfl) (by rfl) fk fo) (cg.put (by decide) _) fun cx (d8 : Kn 118 (K85e5 b_buses b_from_ b_r_ b_see a b ad ag at_ buses) ((tP 70 4 (4 + (IntKind.i64.wrap (at_ - buses) : Int).toNat * 1)) :: (tP 69 4 4) :: (tI 68 x_v20) :: (tI 67 (IntKind.i64.wrap (at_ - buses))) :: (K85m14 x_v20 at_)) cx) => ?_
        obtain ⟨x, c8, v⟩ := bnd v
        obtain ⟨ha, hd, gd⟩ := A4int.setI_some c8
        refine wpFrom_loud _ rfl (rfl) fun K hK => ?_
        refine wp_store 4 (4 + (IntKind.i64.wrap (at_ - buses) : Int).toNat * 1) (.c (.int .i64 x_v20)) (K85c10 d x) d8 bf rfl rfl (by rfl) (by rfl) (by rfl) (by kernel_rfl) (by refine decide_eq_true ?_; show (4 + (IntKind.i64.wrap (at_ - buses) : Int).toNat * 1) + 1 ≤ 10; omega) (arr_set (fun (y : Int) => ([.int .i64 y] : List SC)) 1 (fun _ => rfl) [.int .i64 d.holds.a0, .int .i64 d.holds.a1, .int .i64 d.holds.a2, .int .i64 d.holds.a3] [.bool d.spares.a0, .bool d.spares.a1] x_v21.toL x.toL (IntKind.i64.wrap (at_ - buses) : Int).toNat x_v20 gd (show (IntKind.i64.wrap (at_ - buses) : Int).toNat < 4 by omega) rfl rfl rfl) fun gm d9 (cj : Mem ap bm (K85e5 b_buses b_from_ b_r_ b_see a b ad ag at_ buses) [⟨[.int .i64 buses], none⟩, ⟨(K85c7 b_buses b_from_ b_r_ b_see), none⟩, ⟨(K85c12 m r_ q f g p u), none⟩, ⟨[.func fn_see fa_see fc_see], none⟩, ⟨(K85c10 d x), some 102⟩, ⟨(K85c1 c), some 104⟩, ⟨(K85c2 x61), none⟩] [] gm) => hK _ _ ?_
        have ea : Kn 118 (K85e5 b_buses b_from_ b_r_ b_see a b ad ag at_ buses) (K85m14 x_v20 at_) cx := d9.keep [11, 8, 7, 2, 3, 4, 5] (by rfl)
        refine wpFrom_end (by decide) (wp_region_from (R_runk 0 13 [83, 81, 72, 71, 11, 8, 7, 2, 3, 4, 5] ((tI 83 (IntKind.i64.wrap (at_ + 1))) :: (tA 81 (K85c6 c x_v20)) :: (tA 72 (K85c10 d x)) :: (71, .one (.c (.func (.func 85) #[] #[.pointer (some ⟨b_buses, 0, none⟩), .pointer (some ⟨b_from_, 0, none⟩), .pointer (some ⟨b_r_, 0, none⟩), .pointer (some ⟨b_see, 0, none⟩)]))) :: (K85m14 x_v20 at_)) ea cj.plOk (by kernel_rfl) fun hp eb => ?_))
        obtain ⟨x84, ex84, v⟩ := bnd v
        obtain ⟨gv, e6, df, fs⟩ := cj.lendS hXS av
        refine wpFrom_loud _ rfl (rfl) fun K hK => ?_
        refine wp_callVM (.func (.func 85) #[] #[.pointer (some ⟨b_buses, 0, none⟩), .pointer (some ⟨b_from_, 0, none⟩), .pointer (some ⟨b_r_, 0, none⟩), .pointer (some ⟨b_see, 0, none⟩)]) [.agg (K85c10 d x), .agg (K85c6 c x_v20), .c (.int .i64 (IntKind.i64.wrap (at_ + 1)))] _ eb rfl rfl (by decide) (by rfl) (by rfl) rfl ⟨85, _, _, rfl, fun _ _ => by kernel_rfl, ih az (by omega) _ _ _ _ _ _ hXS see_ _ _ _ hy _ _ _ _ (Deeds.mk d.holds x d.spares) _ ((rep_pair (rep_pair rep_int (rep_pair rep_int (rep_pair rep_int rep_int))) (rep_pair (rep_pair rep_int (rep_pair rep_int (rep_pair rep_int rep_int))) (rep_pair rep_bool rep_bool))) : rep bm (Deeds.mk d.holds x d.spares) _) (Cost.mk (IntKind.i64.wrap (c.number + (if 1 < (IntKind.i64.wrap (x_v20 + 1)) then 1 else (IntKind.i64.wrap (x_v20 + 1))))) c.sum) _ ((rep_pair rep_int rep_int) : rep bm (Cost.mk (IntKind.i64.wrap (c.number + (if 1 < (IntKind.i64.wrap (x_v20 + 1)) then 1 else (IntKind.i64.wrap (x_v20 + 1))))) c.sum) _) (IntKind.i64.wrap (at_ + 1)) buses hb_buses hc_from_ r_ hb_r_ hc_see x_v22 df e6 _ ex84⟩ fun ie im de => ?_
        obtain ⟨rfl, g0, gq, aj, fx, dg, fb⟩ := de
        obtain ⟨c4, fy, dh, ck⟩ := fs _ _ _ _ aj fx dg fb
        have fz := Fr.Sim.trans b4 fy
        replace hb_buses := hb_buses.mono aj
        replace hc_from_ := hc_from_.mono aj
        replace k := k.mono aj
        replace i := i.mono aj
        replace l := l.mono aj
        replace hb_r_ := hb_r_.mono aj
        replace hc_see := hc_see.mono aj
        refine ⟨.tup [], rfl, fun cy (ed : Kn 118 (K85e5 b_buses b_from_ b_r_ b_see a b ad ag at_ buses) ((84, .tup []) :: (tI 83 (IntKind.i64.wrap (at_ + 1))) :: (tA 81 (K85c6 c x_v20)) :: (tA 72 (K85c10 d x)) :: (71, .one (.c (.func (.func 85) #[] #[.pointer (some ⟨b_buses, 0, none⟩), .pointer (some ⟨b_from_, 0, none⟩), .pointer (some ⟨b_r_, 0, none⟩), .pointer (some ⟨b_see, 0, none⟩)]))) :: (K85m14 x_v20 at_)) cy) => hK _ _ ?_⟩
        have ee : Kn 118 (K85e5 b_buses b_from_ b_r_ b_see a b ad ag at_ buses) (K85m14 x_v20 at_) cy := ed.keep [11, 8, 7, 2, 3, 4, 5] (by rfl)
        refine wpFrom_end (by decide) (wp_region_from (R_runk 0 3 [11, 8, 7, 2, 3, 4, 5] ((tI 11 (IntKind.i64.wrap (x_v20 + 1))) :: (K85m18 at_)) ee ck.plOk (by kernel_rfl) fun hq ef => ?_))
        refine wpFrom_end (by decide) ?_
        exact Exists.intro az ⟨Nat.lt_succ_self _, Exists.intro (IntKind.i64.wrap (x_v20 + 1)) ⟨x, x84, c4, _, _, rfl, ((ef.keep [11, 8, 7, 2, 3, 4, 5] (by rfl)).cut 6 (by kernel_rfl)), (ck.cutPl 6 (by kernel_rfl)), (Heap.le_trans ah (Heap.le_trans ae (Heap.le_trans ai aj))), fz, dh, (by omega), v⟩⟩
       ·
        rw [bo, cond_false] at v
        refine wp_skip (wp_region_from (R_runk 0 3 [11, 8, 7, 2, 3, 4, 5] ((tI 11 (IntKind.i64.wrap (x_v20 + 1))) :: (K85m18 at_)) bv bf.plOk (by kernel_rfl) fun hr eh => ?_))
        refine wpFrom_end (by decide) ?_
        exact Exists.intro az ⟨Nat.lt_succ_self _, Exists.intro (IntKind.i64.wrap (x_v20 + 1)) ⟨x_v21, x_v22, ap, _, _, rfl, ((eh.keep [11, 8, 7, 2, 3, 4, 5] (by rfl)).cut 6 (by kernel_rfl)), (bf.cutPl 6 (by kernel_rfl)), (Heap.le_trans ah (Heap.le_trans ae ai)), b4, av, (by omega), v⟩⟩
      ·
       rw [bn, cond_false] at v
       refine wp_exit ?_
       obtain rfl := Option.some.inj v
       exact Exists.intro ap ⟨_, _, rfl, (bu.keep [] (by rfl)), ay, (Heap.le_trans ah ae), b4, av⟩
    ·
     rintro _ io ⟨a8, b5, bb, rfl, g3, fc, aq, fw, dd⟩
     replace hb_buses := hb_buses.mono aq
     replace hc_from_ := hc_from_.mono aq
     replace k := k.mono aq
     replace i := i.mono aq
     replace l := l.mono aq
     replace hb_r_ := hb_r_.mono aq
     replace hc_see := hc_see.mono aq
     obtain rfl := Option.some.inj H
     exact endM_of rfl ⟨rfl, bb, a8, aq, fw, dd, ((fc.cutRw 0).cutPl 0 (by kernel_rfl))⟩
   ·
    rw [bt, cond_false] at H
    refine wp_seq (wp_region_from (R_runk 0 9 [85, 8, 7, 2, 3, 4, 6] [(tB 85 (decide (at_ < (IntKind.i64.wrap ((IntKind.i64.wrap (2 * buses)) + ((r_.spares.length : Nat) : Int)))))), (tP 8 5 0), (tP 7 4 0), (tI 2 at_), (tP 3 0 0), (tP 4 1 0), (tP 6 3 0)] b1 af.plOk (by kernel_rfl) fun ht bw => ?_))
    refine wpFrom_end (by decide) (wp_cond_sv (decide (at_ < (IntKind.i64.wrap ((IntKind.i64.wrap (2 * buses)) + ((r_.spares.length : Nat) : Int))))) bw (by kernel_rfl) (fun bp => ?_) (fun bp => ?_))
    ·
     rw [bp, cond_true] at H
     refine wp_seq (wp_region_from (R_runk 0 1 [94, 8, 7, 2, 3, 4] [(tI 94 0), (tP 8 5 0), (tP 7 4 0), (tI 2 at_), (tP 3 0 0), (tP 4 1 0)] bw af.plOk (by kernel_rfl) fun hu ei => ?_))
     refine wpFrom_end (by decide) ?_
     obtain ⟨bk, cc, H⟩ := bnd H
     refine wp_mid' (fun a' w' => ∃ (a9 : Fr) (b7 : Array Value) (bd : Heap), a' = ⟨b7, []⟩ ∧ Kn 118 (K85e3 b_buses b_from_ b_r_ b_see a b) [] b7 ∧ Mem a9 bd (K85e3 b_buses b_from_ b_r_ b_see a b) [⟨[.int .i64 buses], none⟩, ⟨(K85c7 b_buses b_from_ b_r_ b_see), none⟩, ⟨(K85c12 m r_ q f g p u), none⟩, ⟨[.func fn_see fa_see fc_see], none⟩, ⟨[.int .i64 d.holds.a0, .int .i64 d.holds.a1, .int .i64 d.holds.a2, .int .i64 d.holds.a3, .int .i64 d.turns.a0, .int .i64 d.turns.a1, .int .i64 d.turns.a2, .int .i64 d.turns.a3, .bool bk.1.a0, .bool bk.1.a1], some 102⟩, ⟨(K85c1 c), some 104⟩] [] w' ∧ Heap.le h bd ∧ Fr.Sim B F a9 ∧ XS bk.2 a9 bd) ?_ ?_
     ·
      refine wp_block ?_
      refine wp_loop_n (fun ct a' w' => ∃ (x_v30 : Int) (x_v31 : A2bool) (x_v32 : σ) (a4 : Fr) (b8 : Array Value) (aw : Heap), a' = ⟨b8, []⟩ ∧ Kn 118 (K85e3 b_buses b_from_ b_r_ b_see a b) (K85m15 x_v30 at_) b8 ∧ Mem a4 aw (K85e3 b_buses b_from_ b_r_ b_see a b) [⟨[.int .i64 buses], none⟩, ⟨(K85c7 b_buses b_from_ b_r_ b_see), none⟩, ⟨(K85c12 m r_ q f g p u), none⟩, ⟨[.func fn_see fa_see fc_see], none⟩, ⟨[.int .i64 d.holds.a0, .int .i64 d.holds.a1, .int .i64 d.holds.a2, .int .i64 d.holds.a3, .int .i64 d.turns.a0, .int .i64 d.turns.a1, .int .i64 d.turns.a2, .int .i64 d.turns.a3, .bool x_v31.a0, .bool x_v31.a1], some 102⟩, ⟨(K85c1 c), some 104⟩] [] w' ∧ Heap.le h aw ∧ Fr.Sim B F a4 ∧ XS x_v32 a4 aw ∧ ct ≤ n ∧ control_Route_every_1_l3 ct see_ d c at_ buses r_ x_v30 x_v31 x_v32 = some bk) n ?_ ?_
      ·
       exact Exists.intro 0 ⟨d.spares, s, F, _, _, rfl, (ei.keep [94, 8, 7, 2, 3, 4] (by rfl)), af, (Heap.le_refl _), (Fr.Sim.refl B F), hs, Nat.le_refl _, cc⟩
      ·
       rintro bi _ ip ⟨x_v30, x_v31, x_v32, a4, b8, aw, rfl, ej, bg, ak, cp, ce, g8, aa⟩
       clear cc
       obtain _ | bi := bi
       ·
        rw [control_Route_every_1_l3] at aa; cases aa
       rw [control_Route_every_1_l3] at aa
       replace hb_buses := hb_buses.mono ak
       replace hc_from_ := hc_from_.mono ak
       replace k := k.mono ak
       replace i := i.mono ak
       replace l := l.mono ak
       replace hb_r_ := hb_r_.mono ak
       replace hc_see := hc_see.mono ak
       refine wp_seq (wp_region_from (R_runk 0 1 [95, 94, 8, 7, 2, 3, 4] ((tB 95 (decide (x_v30 < 2))) :: (K85m15 x_v30 at_)) ej bg.plOk (by kernel_rfl) fun hw bz => ?_))
       refine wpFrom_end (by decide) (wp_seq (wp_cond_sv (decide (x_v30 < 2)) bz (by kernel_rfl) (fun br => ?_) (fun br => ?_)))
       ·
        rw [br, cond_true] at aa
        refine wp_skip (wp_seq (wp_block (wp_seq (wp_region_from (R_runk 0 2 [12, 94, 8, 7, 2, 3, 4] ((tI 12 x_v30) :: (K85m15 x_v30 at_)) bz bg.plOk (by kernel_rfl) fun hx ek => ?_)))))
        refine wpFrom_end (by decide) (wp_seq (wp_region_from (R_runk 0 7 [103, 102, 100, 12, 94, 8, 7, 2, 3, 4] ((tP 103 4 8) :: (tB 102 (x_v30 == 1)) :: (tI 100 (IntKind.i64.wrap (at_ - (IntKind.i64.wrap (2 * buses))))) :: (tI 12 x_v30) :: (K85m15 x_v30 at_)) ek bg.plOk (by kernel_rfl) fun hz ch => ?_)))
        obtain ⟨x104, ex104, aa⟩ := bnd aa
        obtain ⟨fl, fp⟩ := rng_some ex104
        refine R_one 7 (.one (.c (.ptr 4 (8 + (IntKind.i64.wrap (at_ - (IntKind.i64.wrap (2 * buses))) : Int).toNat * 1)))) rfl (rfl) rfl (run_indexA (E := 4) ch rfl (by kernel_rfl) (by kernel_rfl) (by rfl) (by rfl) fl fp) (ch.put (by decide) _) fun cz (el : Kn 118 (K85e3 b_buses b_from_ b_r_ b_see a b) ((tP 104 4 (8 + (IntKind.i64.wrap (at_ - (IntKind.i64.wrap (2 * buses))) : Int).toNat * 1)) :: (tP 103 4 8) :: (tB 102 (x_v30 == 1)) :: (tI 100 (IntKind.i64.wrap (at_ - (IntKind.i64.wrap (2 * buses))))) :: (tI 12 x_v30) :: (K85m15 x_v30 at_)) cz) => ?_
        obtain ⟨ac, c9, aa⟩ := bnd aa
        obtain ⟨hb, he, gf⟩ := A2bool.setI_some c9
        refine wpFrom_loud _ rfl (rfl) fun K hK => ?_
        refine wp_store 4 (8 + (IntKind.i64.wrap (at_ - (IntKind.i64.wrap (2 * buses))) : Int).toNat * 1) (.c (.bool (x_v30 == 1))) (K85c11 d ac) el bg rfl rfl (by rfl) (by rfl) (by rfl) (by kernel_rfl) (by refine decide_eq_true ?_; show (8 + (IntKind.i64.wrap (at_ - (IntKind.i64.wrap (2 * buses))) : Int).toNat * 1) + 1 ≤ 10; omega) (arr_set (fun (y : Bool) => ([.bool y] : List SC)) 1 (fun _ => rfl) [.int .i64 d.holds.a0, .int .i64 d.holds.a1, .int .i64 d.holds.a2, .int .i64 d.holds.a3, .int .i64 d.turns.a0, .int .i64 d.turns.a1, .int .i64 d.turns.a2, .int .i64 d.turns.a3] [] x_v31.toL ac.toL (IntKind.i64.wrap (at_ - (IntKind.i64.wrap (2 * buses))) : Int).toNat (x_v30 == 1) gf (show (IntKind.i64.wrap (at_ - (IntKind.i64.wrap (2 * buses))) : Int).toNat < 2 by omega) rfl rfl rfl) fun go em (cl : Mem a4 aw (K85e3 b_buses b_from_ b_r_ b_see a b) [⟨[.int .i64 buses], none⟩, ⟨(K85c7 b_buses b_from_ b_r_ b_see), none⟩, ⟨(K85c12 m r_ q f g p u), none⟩, ⟨[.func fn_see fa_see fc_see], none⟩, ⟨(K85c11 d ac), some 102⟩, ⟨(K85c1 c), some 104⟩] [] go) => hK _ _ ?_
        have en : Kn 118 (K85e3 b_buses b_from_ b_r_ b_see a b) ((tI 12 x_v30) :: (K85m15 x_v30 at_)) cz := em.keep [12, 94, 8, 7, 2, 3, 4] (by rfl)
        refine wpFrom_end (by decide) (wp_region_from (R_runk 0 11 [115, 113, 106, 105, 94, 8, 7, 2, 3, 4] ((tI 115 (IntKind.i64.wrap (at_ + 1))) :: (tA 113 [.int .i64 (IntKind.i64.wrap (c.number + x_v30)), .int .i64 c.sum]) :: (tA 106 (K85c11 d ac)) :: (105, .one (.c (.func (.func 85) #[] #[.pointer (some ⟨b_buses, 0, none⟩), .pointer (some ⟨b_from_, 0, none⟩), .pointer (some ⟨b_r_, 0, none⟩), .pointer (some ⟨b_see, 0, none⟩)]))) :: (K85m15 x_v30 at_)) en cl.plOk (by kernel_rfl) fun h1 ep => ?_))
        obtain ⟨x116, ex116, aa⟩ := bnd aa
        obtain ⟨gw, e7, dk, ft⟩ := cl.lendS hXS ce
        refine wpFrom_loud _ rfl (rfl) fun K hK => ?_
        refine wp_callVM (.func (.func 85) #[] #[.pointer (some ⟨b_buses, 0, none⟩), .pointer (some ⟨b_from_, 0, none⟩), .pointer (some ⟨b_r_, 0, none⟩), .pointer (some ⟨b_see, 0, none⟩)]) [.agg (K85c11 d ac), .agg [.int .i64 (IntKind.i64.wrap (c.number + x_v30)), .int .i64 c.sum], .c (.int .i64 (IntKind.i64.wrap (at_ + 1)))] _ ep rfl rfl (by decide) (by rfl) (by rfl) rfl ⟨85, _, _, rfl, fun _ _ => by kernel_rfl, ih bi (by omega) _ _ _ _ _ _ hXS see_ _ _ _ hy _ _ _ _ (Deeds.mk d.holds d.turns ac) _ ((rep_pair (rep_pair rep_int (rep_pair rep_int (rep_pair rep_int rep_int))) (rep_pair (rep_pair rep_int (rep_pair rep_int (rep_pair rep_int rep_int))) (rep_pair rep_bool rep_bool))) : rep aw (Deeds.mk d.holds d.turns ac) _) (Cost.mk (IntKind.i64.wrap (c.number + x_v30)) c.sum) _ ((rep_pair rep_int rep_int) : rep aw (Cost.mk (IntKind.i64.wrap (c.number + x_v30)) c.sum) _) (IntKind.i64.wrap (at_ + 1)) buses hb_buses hc_from_ r_ hb_r_ hc_see x_v32 dk e7 _ ex116⟩ fun ig iq dj => ?_
        obtain ⟨rfl, g1, gr, al, f1, dl, fd⟩ := dj
        obtain ⟨c5, f2, dm, cm⟩ := ft _ _ _ _ al f1 dl fd
        have f3 := Fr.Sim.trans cp f2
        replace hb_buses := hb_buses.mono al
        replace hc_from_ := hc_from_.mono al
        replace k := k.mono al
        replace i := i.mono al
        replace l := l.mono al
        replace hb_r_ := hb_r_.mono al
        replace hc_see := hc_see.mono al
        refine ⟨.tup [], rfl, fun c0 (er : Kn 118 (K85e3 b_buses b_from_ b_r_ b_see a b) ((116, .tup []) :: (tI 115 (IntKind.i64.wrap (at_ + 1))) :: (tA 113 [.int .i64 (IntKind.i64.wrap (c.number + x_v30)), .int .i64 c.sum]) :: (tA 106 (K85c11 d ac)) :: (105, .one (.c (.func (.func 85) #[] #[.pointer (some ⟨b_buses, 0, none⟩), .pointer (some ⟨b_from_, 0, none⟩), .pointer (some ⟨b_r_, 0, none⟩), .pointer (some ⟨b_see, 0, none⟩)]))) :: (K85m15 x_v30 at_)) c0) => hK _ _ ?_⟩
        have es : Kn 118 (K85e3 b_buses b_from_ b_r_ b_see a b) (K85m15 x_v30 at_) c0 := er.keep [94, 8, 7, 2, 3, 4] (by rfl)
        refine wpFrom_end (by decide) (wp_region_from (R_runk 0 2 [94, 8, 7, 2, 3, 4] [(tI 94 (IntKind.i64.wrap (x_v30 + 1))), (tP 8 5 0), (tP 7 4 0), (tI 2 at_), (tP 3 0 0), (tP 4 1 0)] es cm.plOk (by kernel_rfl) fun h2 et => ?_))
        refine wpFrom_end (by decide) ?_
        exact Exists.intro bi ⟨Nat.lt_succ_self _, Exists.intro (IntKind.i64.wrap (x_v30 + 1)) ⟨ac, x116, c5, _, _, rfl, (et.keep [94, 8, 7, 2, 3, 4] (by rfl)), cm, (Heap.le_trans ak al), f3, dm, (by omega), aa⟩⟩
       ·
        rw [br, cond_false] at aa
        refine wp_exit ?_
        obtain rfl := Option.some.inj aa
        exact Exists.intro a4 ⟨_, _, rfl, (bz.keep [] (by rfl)), bg, ak, cp, ce⟩
     ·
      rintro _ ir ⟨a9, b7, bd, rfl, g4, fe, ar, f0, di⟩
      replace hb_buses := hb_buses.mono ar
      replace hc_from_ := hc_from_.mono ar
      replace k := k.mono ar
      replace i := i.mono ar
      replace l := l.mono ar
      replace hb_r_ := hb_r_.mono ar
      replace hc_see := hc_see.mono ar
      obtain rfl := Option.some.inj H
      exact endM_of rfl ⟨rfl, bd, a9, ar, f0, di, ((fe.cutRw 0).cutPl 0 (by kernel_rfl))⟩
    ·
     rw [bp, cond_false] at H
     refine wp_region_from (R_runk 0 3 [15, 14, 13] [(tA 15 (K85c1 c)), (tA 14 (K85c13 d)), (13, .one (.c (.func fn_see fa_see fc_see)))] bw af.plOk (by kernel_rfl) fun h3 eu => ?_)
     obtain ⟨x16, ex16, H⟩ := bnd H
     obtain ⟨gx, e8, dp, fu⟩ := af.lendS hXS hs
     refine wpFrom_loud _ rfl (rfl) fun K hK => ?_
     refine wp_callVM (.func fn_see fa_see fc_see) [.agg (K85c13 d), .agg (K85c1 c)] _ eu rfl rfl (by decide) (by rfl) (by rfl) rfl (hy _ _ _ _ d _ ((rep_pair (rep_pair rep_int (rep_pair rep_int (rep_pair rep_int rep_int))) (rep_pair (rep_pair rep_int (rep_pair rep_int (rep_pair rep_int rep_int))) (rep_pair rep_bool rep_bool))) : rep h d _) c _ ((rep_pair rep_int rep_int) : rep h c _) _ dp e8 ex16) fun ii iu dn => ?_
     obtain ⟨rfl, dx, gs, am, f4, dq, ff⟩ := dn
     obtain ⟨c6, f5, dr, fg⟩ := fu _ _ _ _ am f4 dq ff
     have f6 := Fr.Sim.trans (Fr.Sim.refl B F) f5
     replace hb_buses := hb_buses.mono am
     replace hc_from_ := hc_from_.mono am
     replace k := k.mono am
     replace i := i.mono am
     replace l := l.mono am
     replace hb_r_ := hb_r_.mono am
     replace hc_see := hc_see.mono am
     refine ⟨.tup [], rfl, fun c1 (ev : Kn 118 (K85e3 b_buses b_from_ b_r_ b_see a b) [(16, .tup []), (tA 15 (K85c1 c)), (tA 14 (K85c13 d)), (13, .one (.c (.func fn_see fa_see fc_see)))] c1) => hK _ _ ?_⟩
     have g5 : Kn 118 (K85e3 b_buses b_from_ b_r_ b_see a b) [] c1 := ev.keep [] (by rfl)
     refine wpFrom_end (by decide) ?_
     obtain rfl := Option.some.inj H
     exact endM_of rfl ⟨rfl, dx, c6, am, f6, dr, ((fg.cutRw 0).cutPl 0 (by kernel_rfl))⟩
theorem control_Route_every_1_ok (n : Nat) {F : Fr} {h : Heap} {w : World} {σ : Type} {XS : σ → Fr → Heap → Prop} {B : Nat → Prop} (hXS : SOk XS B) (see_ : σ → Deeds → Cost → Option σ) {fn_see : Fn} {fa_see fc_see : Array Value} (hy : See1 XS B (.func fn_see fa_see fc_see) see_) {b_buses b_from_ b_r_ b_see : Nat} (d : Deeds) {cs_d : List Value} (hx_d : rep h d cs_d) (c : Cost) {cs_c : List Value} (hx_c : rep h c cs_c) (at_ : Int) (buses : Int) (hb_buses : BoxS h b_buses buses) (hc_from_ : CellsAt h b_from_ [.func (.func 85) #[] #[.pointer (some ⟨b_buses, 0, none⟩), .pointer (some ⟨b_from_, 0, none⟩), .pointer (some ⟨b_r_, 0, none⟩), .pointer (some ⟨b_see, 0, none⟩)]]) (r_ : Route) (hb_r_ : BoxS h b_r_ r_) (hc_see : CellsAt h b_see [.func fn_see fa_see fc_see]) (s : σ) (hs : XS s F h) (hm : Mem F h [] [] [] w) {r : σ} (H : control_Route_every_1 n see_ d c at_ buses r_ s = some r) :
  Calls Try.prog 85 #[.agg cs_d.toArray, .agg cs_c.toArray, .int .i64 at_, .pointer (some ⟨b_buses, 0, none⟩), .pointer (some ⟨b_from_, 0, none⟩), .pointer (some ⟨b_r_, 0, none⟩), .pointer (some ⟨b_see, 0, none⟩)] w (SRet XS B F h r) := control_Route_every_1_rec n F h w σ XS B hXS see_ fn_see fa_see fc_see hy b_buses b_from_ b_r_ b_see d cs_d hx_d c cs_c hx_c at_ buses hb_buses hc_from_ r_ hb_r_ hc_see s hs hm r H

abbrev K51c1 (r_ : Route) : List SC := [.int .i64 ((r_.buses.length : Nat) : Int)]
abbrev K51e2 (a b d f : Nat) : Env := [(a, 0), (b, 0), (d, 0), (f, 0)]
abbrev K51c3 : List SC := [.int .i64 0, .int .i64 0, .int .i64 0, .int .i64 0, .int .i64 0, .int .i64 0, .int .i64 0, .int .i64 0, .bool false, .bool false]
abbrev K51c4 (d f a b : Nat) : List SC := [.func (.func 85) #[] #[.pointer (some ⟨d, 0, none⟩), .pointer (some ⟨f, 0, none⟩), .pointer (some ⟨a, 0, none⟩), .pointer (some ⟨b, 0, none⟩)]]
abbrev K51c5 (g : Option Addr) (r_ : Route) (l : Nat) (j : Option Addr) (m : Nat) (k : Option Addr) (o : Nat) : List SC := [.slice g r_.legs.length l, .int .i64 r_.turn.lo, .int .i64 r_.turn.hi, .slice j r_.buses.length m, .slice k r_.spares.length o, .int .i64 r_.unit, .int .i64 r_.gap, .int .i64 r_.fr, .int .i64 r_.to_]
set_option maxRecDepth 100000 in
set_option maxHeartbeats 4000000 in
theorem control_Route_every_ok (n : Nat) {F : Fr} {h : Heap} {w : World} {σ : Type} {XS : σ → Fr → Heap → Prop} {B : Nat → Prop} (hXS : SOk XS B) (see_ : σ → Deeds → Cost → Option σ) {fn_see : Fn} {fa_see fc_see : Array Value} (hy : See1 XS B (.func fn_see fa_see fc_see) see_) (r_ : Route) {cs_r_ : List Value} (hx_r_ : rep h r_ cs_r_) (s : σ) (hs : XS s F h) (hm : Mem F h [] [] [] w) {r : σ} (H : control_Route_every n see_ r_ s = some r) :
  Calls Try.prog 51 #[.agg cs_r_.toArray, .func fn_see fa_see fc_see] w (SRet XS B F h r) := by
 obtain ⟨_, _, rfl, ⟨g, l, rfl, q⟩, ⟨_, _, rfl, ⟨_, _, rfl, rfl, rfl⟩, ⟨_, _, rfl, ⟨j, m, rfl, u⟩, ⟨_, _, rfl, ⟨k, o, rfl, v⟩, ⟨_, _, rfl, rfl, ⟨_, _, rfl, rfl, ⟨_, _, rfl, rfl, rfl⟩⟩⟩⟩⟩⟩⟩ := hx_r_
 refine enter' (e := []) 14 [.agg (K51c5 g r_ l j m k o), .c (.func fn_see fa_see fc_see)] Try.func51 rfl rfl rfl rfl fun t hk => ?_
 unfold control_Route_every at H
 refine wp_seq (wp_region_from (wpFrom_loud _ rfl (rfl) fun K hK => ?_))
 refine wp_box (.agg (K51c5 g r_ l j m k o)) hk hm rfl rfl (by decide) (by kernel_rfl) (by kernel_rfl) (by kernel_rfl) fun a bx b0 (a9 : Kn 14 [(a, 0)] [(tP 2 0 0), (tA 0 (K51c5 g r_ l j m k o)), (1, .one (.c (.func fn_see fa_see fc_see)))] bx) (bn : Mem F h [(a, 0)] [⟨(K51c5 g r_ l j m k o), some 43⟩] [] b0) => hK _ _ ?_
 refine wpFrom_loud _ rfl (rfl) fun K hK => ?_
 refine wp_box (.c (.func fn_see fa_see fc_see)) a9 bn rfl rfl (by decide) (by kernel_rfl) (by kernel_rfl) (by kernel_rfl) fun b aw b1 (ba : Kn 14 [(a, 0), (b, 0)] [(tP 3 1 0), (tP 2 0 0), (tA 0 (K51c5 g r_ l j m k o)), (1, .one (.c (.func fn_see fa_see fc_see)))] aw) (au : Mem F h [(a, 0), (b, 0)] [⟨(K51c5 g r_ l j m k o), some 43⟩, ⟨[.func fn_see fa_see fc_see], some 107⟩] [] b1) => hK _ _ ?_
 have bb : Kn 14 [(a, 0), (b, 0)] [(tP 3 1 0), (tP 2 0 0)] aw := ba.keep [3, 2] (by rfl)
 refine wpFrom_end (by decide) (wp_seq (wp_region_from (R_runk 0 3 [8, 3, 2] [(tI 8 ((r_.buses.length : Nat) : Int)), (tP 3 1 0), (tP 2 0 0)] bb au.plOk (by kernel_rfl) fun b7 bc => ?_)))
 refine wpFrom_loud _ rfl (rfl) fun K hK => ?_
 refine wp_alloc [.int .i64 0] bc au rfl rfl (by decide) (by kernel_rfl) (by kernel_rfl) (by kernel_rfl) fun d ax b2 (bd : Kn 14 [(a, 0), (b, 0), (d, 0)] [(tP 4 2 0), (tI 8 ((r_.buses.length : Nat) : Int)), (tP 3 1 0), (tP 2 0 0)] ax) (bo : Mem F h [(a, 0), (b, 0), (d, 0)] [⟨(K51c5 g r_ l j m k o), some 43⟩, ⟨[.func fn_see fa_see fc_see], some 107⟩, ⟨[.int .i64 0], some 3⟩] [] b2) => hK _ _ ?_
 refine wpFrom_loud _ rfl (rfl) fun K hK => ?_
 refine wp_store 2 0 (.c (.int .i64 ((r_.buses.length : Nat) : Int))) (K51c1 r_) bd bo rfl rfl (by rfl) (by rfl) (by rfl) (by kernel_rfl) (by kernel_rfl) (by rfl) fun b3 be (bp : Mem F h [(a, 0), (b, 0), (d, 0)] [⟨(K51c5 g r_ l j m k o), some 43⟩, ⟨[.func fn_see fa_see fc_see], some 107⟩, ⟨(K51c1 r_), some 3⟩] [] b3) => hK _ _ ?_
 have bf : Kn 14 [(a, 0), (b, 0), (d, 0)] [(tP 4 2 0), (tP 3 1 0), (tP 2 0 0)] ax := be.keep [4, 3, 2] (by rfl)
 refine wpFrom_end (by decide) (wp_seq (wp_region_from (wpFrom_loud _ rfl (rfl) fun K hK => ?_)))
 refine wp_alloc [.nilfunc] bf bp rfl rfl (by decide) (by kernel_rfl) (by kernel_rfl) (by kernel_rfl) fun f bz aj (bg : Kn 14 (K51e2 a b d f) [(tP 5 3 0), (tP 4 2 0), (tP 3 1 0), (tP 2 0 0)] bz) (bq : Mem F h (K51e2 a b d f) [⟨(K51c5 g r_ l j m k o), some 43⟩, ⟨[.func fn_see fa_see fc_see], some 107⟩, ⟨(K51c1 r_), some 3⟩, ⟨[.nilfunc], some 144⟩] [] aj) => hK _ _ ?_
 refine wpFrom_end (by decide) (wp_seq (wp_region_from ?_))
 obtain ⟨ag, af, aq, am⟩ := bq.settlePlc (i := 2) rfl
 replace q := q.mono af
 replace u := u.mono af
 replace v := v.mono af
 replace hs := hXS.up hs af
 replace am : Mem F ag (K51e2 a b d f) [⟨(K51c5 g r_ l j m k o), some 43⟩, ⟨[.func fn_see fa_see fc_see], some 107⟩, ⟨(K51c1 r_), none⟩, ⟨[.nilfunc], some 144⟩] [] aj := am
 have y : BoxS ag d (((r_.buses.length : Nat) : Int) : Int) := BoxS.of (e := (K51e2 a b d f)) (cs := (K51c1 r_)) (rep_int : rep ag (((r_.buses.length : Nat) : Int) : Int) _) rfl aq
 have aa : CellsAt ag d [.int .i64 ((r_.buses.length : Nat) : Int)] := CellsAt.of (e := [(a, 0), (b, 0), (d, 0), (f, 0)]) (cs := [.int .i64 ((r_.buses.length : Nat) : Int)]) rfl aq
 obtain ⟨ah, ac, ar, an⟩ := am.settlePlc (i := 0) rfl
 replace q := q.mono ac
 replace u := u.mono ac
 replace v := v.mono ac
 replace y := y.mono ac
 replace aa := aa.mono ac
 replace hs := hXS.up hs ac
 replace an : Mem F ah (K51e2 a b d f) [⟨(K51c5 g r_ l j m k o), none⟩, ⟨[.func fn_see fa_see fc_see], some 107⟩, ⟨(K51c1 r_), none⟩, ⟨[.nilfunc], some 144⟩] [] aj := an
 have ab : BoxS ah a (r_ : Route) := BoxS.of (e := (K51e2 a b d f)) (cs := (K51c5 g r_ l j m k o)) ((rep_pair (rep_slice q) (rep_pair (rep_pair rep_int rep_int) (rep_pair (rep_slice u) (rep_pair (rep_slice v) (rep_pair rep_int (rep_pair rep_int (rep_pair rep_int rep_int))))))) : rep ah (r_ : Route) _) rfl ar
 have ad : CellsAt ah a [.slice g r_.legs.length l, .int .i64 r_.turn.lo, .int .i64 r_.turn.hi, .slice j r_.buses.length m, .slice k r_.spares.length o, .int .i64 r_.unit, .int .i64 r_.gap, .int .i64 r_.fr, .int .i64 r_.to_] := CellsAt.of (e := [(a, 0), (b, 0), (d, 0), (f, 0)]) (cs := [.slice g r_.legs.length l, .int .i64 r_.turn.lo, .int .i64 r_.turn.hi, .slice j r_.buses.length m, .slice k r_.spares.length o, .int .i64 r_.unit, .int .i64 r_.gap, .int .i64 r_.fr, .int .i64 r_.to_]) rfl ar
 obtain ⟨ak, z, a7, ao⟩ := an.settlePlc (i := 1) rfl
 replace q := q.mono z
 replace u := u.mono z
 replace v := v.mono z
 replace y := y.mono z
 replace aa := aa.mono z
 replace ab := ab.mono z
 replace ad := ad.mono z
 replace hs := hXS.up hs z
 replace ao : Mem F ak (K51e2 a b d f) [⟨(K51c5 g r_ l j m k o), none⟩, ⟨[.func fn_see fa_see fc_see], none⟩, ⟨(K51c1 r_), none⟩, ⟨[.nilfunc], some 144⟩] [] aj := ao
 have ae : CellsAt ak b [.func fn_see fa_see fc_see] := CellsAt.of (e := [(a, 0), (b, 0), (d, 0), (f, 0)]) (cs := [.func fn_see fa_see fc_see]) rfl a7
 refine R_func 0 #[] #[.pointer (some ⟨d, 0, none⟩), .pointer (some ⟨f, 0, none⟩), .pointer (some ⟨a, 0, none⟩), .pointer (some ⟨b, 0, none⟩)] bg rfl rfl (rfl) rfl (by decide) (by rfl) (by rfl) (by rfl) (by rfl) fun ay (bh : Kn 14 (K51e2 a b d f) [(9, .one (.c (.func (.func 85) #[] #[.pointer (some ⟨d, 0, none⟩), .pointer (some ⟨f, 0, none⟩), .pointer (some ⟨a, 0, none⟩), .pointer (some ⟨b, 0, none⟩)]))), (tP 5 3 0), (tP 4 2 0), (tP 3 1 0), (tP 2 0 0)] ay) => ?_
 refine wpFrom_loud _ rfl (rfl) fun K hK => ?_
 refine wp_store 3 0 (.c (.func (.func 85) #[] #[.pointer (some ⟨d, 0, none⟩), .pointer (some ⟨f, 0, none⟩), .pointer (some ⟨a, 0, none⟩), .pointer (some ⟨b, 0, none⟩)])) (K51c4 d f a b) bh ao rfl rfl (by rfl) (by rfl) (by rfl) (by kernel_rfl) (by kernel_rfl) (by rfl) fun a0 bi (av : Mem F ak (K51e2 a b d f) [⟨(K51c5 g r_ l j m k o), none⟩, ⟨[.func fn_see fa_see fc_see], none⟩, ⟨(K51c1 r_), none⟩, ⟨(K51c4 d f a b), some 144⟩] [] a0) => hK _ _ ?_
 have bj : Kn 14 (K51e2 a b d f) [(tP 5 3 0)] ay := bi.keep [5] (by rfl)
 refine wpFrom_end (by decide) (wp_region_from (R_runk 0 3 [12, 11, 10] [(tA 12 [.int .i64 0, .int .i64 0]), (tA 11 K51c3), (10, .one (.c (.func (.func 85) #[] #[.pointer (some ⟨d, 0, none⟩), .pointer (some ⟨f, 0, none⟩), .pointer (some ⟨a, 0, none⟩), .pointer (some ⟨b, 0, none⟩)])))] bj av.plOk (by kernel_rfl) fun b8 bk => ?_))
 obtain ⟨ai, x, a8, ap⟩ := av.settlePlc (i := 3) rfl
 replace q := q.mono x
 replace u := u.mono x
 replace v := v.mono x
 replace y := y.mono x
 replace aa := aa.mono x
 replace ab := ab.mono x
 replace ad := ad.mono x
 replace ae := ae.mono x
 replace hs := hXS.up hs x
 replace ap : Mem F ai (K51e2 a b d f) [⟨(K51c5 g r_ l j m k o), none⟩, ⟨[.func fn_see fa_see fc_see], none⟩, ⟨(K51c1 r_), none⟩, ⟨(K51c4 d f a b), none⟩] [] a0 := ap
 have al : CellsAt ai f [.func (.func 85) #[] #[.pointer (some ⟨d, 0, none⟩), .pointer (some ⟨f, 0, none⟩), .pointer (some ⟨a, 0, none⟩), .pointer (some ⟨b, 0, none⟩)]] := CellsAt.of (e := [(a, 0), (b, 0), (d, 0), (f, 0)]) (cs := [.func (.func 85) #[] #[.pointer (some ⟨d, 0, none⟩), .pointer (some ⟨f, 0, none⟩), .pointer (some ⟨a, 0, none⟩), .pointer (some ⟨b, 0, none⟩)]]) rfl a8
 obtain ⟨x13, ex13, H⟩ := bnd H
 obtain ⟨b5, bm, a3, bt⟩ := ap.lendS hXS hs
 refine wpFrom_loud _ rfl (rfl) fun K hK => ?_
 refine wp_callVM (.func (.func 85) #[] #[.pointer (some ⟨d, 0, none⟩), .pointer (some ⟨f, 0, none⟩), .pointer (some ⟨a, 0, none⟩), .pointer (some ⟨b, 0, none⟩)]) [.agg K51c3, .agg [.int .i64 0, .int .i64 0], .c (.int .i64 0)] _ bk rfl rfl (by decide) (by rfl) (by rfl) rfl ⟨85, _, _, rfl, fun _ _ => by kernel_rfl, control_Route_every_1_ok n hXS see_ hy (Deeds.mk (A4int.mk 0 0 0 0) (A4int.mk 0 0 0 0) (A2bool.mk false false)) ((rep_pair (rep_pair rep_int (rep_pair rep_int (rep_pair rep_int rep_int))) (rep_pair (rep_pair rep_int (rep_pair rep_int (rep_pair rep_int rep_int))) (rep_pair rep_bool rep_bool))) : rep ai (Deeds.mk (A4int.mk 0 0 0 0) (A4int.mk 0 0 0 0) (A2bool.mk false false)) _) (Cost.mk 0 0) ((rep_pair rep_int rep_int) : rep ai (Cost.mk 0 0) _) 0 ((r_.buses.length : Nat) : Int) y al r_ ab ae s a3 bm ex13⟩ fun b9 ca a2 => ?_
 obtain ⟨rfl, a6, b4, p, bu, a4, br⟩ := a2
 obtain ⟨a1, bv, a5, bs⟩ := bt _ _ _ _ p bu a4 br
 have bw := Fr.Sim.trans (Fr.Sim.refl B F) bv
 replace q := q.mono p
 replace u := u.mono p
 replace v := v.mono p
 replace y := y.mono p
 replace aa := aa.mono p
 replace ab := ab.mono p
 replace ad := ad.mono p
 replace ae := ae.mono p
 replace al := al.mono p
 refine ⟨.tup [], rfl, fun az (bl : Kn 14 (K51e2 a b d f) [(13, .tup []), (tA 12 [.int .i64 0, .int .i64 0]), (tA 11 K51c3), (10, .one (.c (.func (.func 85) #[] #[.pointer (some ⟨d, 0, none⟩), .pointer (some ⟨f, 0, none⟩), .pointer (some ⟨a, 0, none⟩), .pointer (some ⟨b, 0, none⟩)])))] az) => hK _ _ ?_⟩
 have b6 : Kn 14 (K51e2 a b d f) [] az := bl.keep [] (by rfl)
 refine wpFrom_end (by decide) ?_
 obtain rfl := Option.some.inj H
 exact endM_of rfl ⟨rfl, a6, a1, (Heap.le_trans af (Heap.le_trans ac (Heap.le_trans z (Heap.le_trans x p)))), bw, a5, ((bs.cutRw 0).cutPl 0 (by kernel_rfl))⟩
end Go.Proofs.Ytokchpjijlebiaa
