/- Each call computes its plain function: printed by dec.py. -/
import Derived.Test.YtokchpjijlebiaaProg
import Derived.Test.YtokchpjijlebiaaPure
import Derived.Test.YtokchpjijlebiaaWalkA
import Derived.Test.YtokchpjijlebiaaWalkB
set_option linter.all false
namespace Go.Proofs.Ytokchpjijlebiaa
open Go Go.RowKit
open Rep (rep)
open KRep (kv)
open VRep (rv)
abbrev K34c1 (k : Option Addr) (a : Acts) (o : Nat) (l : Option Addr) (p : Nat) (m : Option Addr) (q : Nat) : List SC := [.slice k a.holds.length o, .slice l a.turns.length p, .slice m a.spares.length q]
abbrev K34c2 (s : Option Addr) (t_ : Truth) (x : Nat) (u : Option Addr) (y : Nat) (g : Option Addr) (i : Nat) : List SC := [.slice s t_.tm.length x, .slice u t_.turns.length y, .slice g t_.legs.length i]
abbrev K34m3 : TM := [(tP 3 1 0), (tP 2 0 0)]
set_option maxRecDepth 100000 in
set_option maxHeartbeats 4000000 in
theorem law_short_ok (n : Nat) {h : Heap} {w : World} (hh : Has h w) (a : Acts) {cs_a : List Value} (hx_a : rep h a cs_a) (t_ : Truth) {cs_t_ : List Value} (hx_t_ : rep h t_ cs_t_) {r : Bool} (H : law_short n a t_ = some r) :
  Calls Try.prog 34 #[.agg cs_a.toArray, .agg cs_t_.toArray] w (Ret (fun h v => v = .bool r) h w) := by
 obtain ⟨_, _, rfl, ⟨k, o, rfl, af⟩, ⟨_, _, rfl, ⟨l, p, rfl, ag⟩, ⟨m, q, rfl, ah⟩⟩⟩ := hx_a
 obtain ⟨_, _, rfl, ⟨s, x, rfl, ad⟩, ⟨_, _, rfl, ⟨u, y, rfl, ae⟩, ⟨g, i, rfl, ab⟩⟩⟩ := hx_t_
 refine enter 58 [.agg (K34c1 k a o l p m q), .agg (K34c2 s t_ x u y g i)] Try.func34 rfl rfl rfl rfl fun t hk => ?_
 have hm := Mem.begin h w hh
 unfold law_short at H
 refine wp_seq (wp_region_from (wpFrom_loud _ rfl (rfl) fun K hK => ?_))
 refine wp_box (.agg (K34c1 k a o l p m q)) hk hm rfl rfl (by decide) (by kernel_rfl) (by kernel_rfl) (by kernel_rfl) fun b cu cx (b8 : Kn 58 [(b, 0)] [(tP 2 0 0), (tA 0 (K34c1 k a o l p m q)), (tA 1 (K34c2 s t_ x u y g i))] cu) (cn : Mem ⟨w, h, noX⟩ h [(b, 0)] [⟨(K34c1 k a o l p m q), some 50⟩] [] cx) => hK _ _ ?_
 refine wpFrom_loud _ rfl (rfl) fun K hK => ?_
 refine wp_box (.agg (K34c2 s t_ x u y g i)) b8 cn rfl rfl (by decide) (by kernel_rfl) (by kernel_rfl) (by kernel_rfl) fun d cv cy (b9 : Kn 58 [(b, 0), (d, 0)] [(tP 3 1 0), (tP 2 0 0), (tA 0 (K34c1 k a o l p m q)), (tA 1 (K34c2 s t_ x u y g i))] cv) (a0 : Mem ⟨w, h, noX⟩ h [(b, 0), (d, 0)] [⟨(K34c1 k a o l p m q), some 50⟩, ⟨(K34c2 s t_ x u y g i), some 75⟩] [] cy) => hK _ _ ?_
 refine R_runk 2 1 [3, 2] K34m3 b9 a0.plOk (by kernel_rfl) fun c8 ca => ?_
 refine wpFrom_end (by decide) (wp_seq (wp_seq (wp_region_from (R_runk 0 1 [5, 3, 2] ((tI 5 0) :: K34m3) ca a0.plOk (by kernel_rfl) fun c9 cb => ?_))))
 refine wpFrom_end (by decide) ?_
 obtain ⟨bg, a9, H⟩ := bnd H
 refine wp_mid' (fun a' w' => ∃ (bj : Unit) (a3 : Array Value) (av : Heap), a' = ⟨a3, []⟩ ∧ Kn 58 [(b, 0), (d, 0)] K34m3 a3 ∧ Mem ⟨w, h, noX⟩ av [(b, 0), (d, 0)] [⟨(K34c1 k a o l p m q), some 50⟩, ⟨(K34c2 s t_ x u y g i), some 75⟩] [] w' ∧ Heap.le h av ∧ bg = .go bj) ?_ ?_
 ·
  refine wp_block ?_
  refine wp_loop_n (fun ct a' w' => ∃ (x_v10 : Int) (a4 : Array Value) (ar : Heap), a' = ⟨a4, []⟩ ∧ Kn 58 [(b, 0), (d, 0)] ((tI 5 x_v10) :: K34m3) a4 ∧ Mem ⟨w, h, noX⟩ ar [(b, 0), (d, 0)] [⟨(K34c1 k a o l p m q), some 50⟩, ⟨(K34c2 s t_ x u y g i), some 75⟩] [] w' ∧ Heap.le h ar ∧ law_short_l1 ct t_ x_v10 = some bg) n ?_ ?_
  ·
   exact Exists.intro 0 ⟨_, _, rfl, (cb.keep [5, 3, 2] (by rfl)), a0, (Heap.le_refl _), a9⟩
  ·
   rintro a2 _ dg ⟨x_v10, a4, ar, rfl, cc, ao, z, f⟩
   clear a9
   obtain _ | a2 := a2
   ·
    rw [law_short_l1] at f; cases f
   rw [law_short_l1] at f
   replace af := af.mono z
   replace ag := ag.mono z
   replace ah := ah.mono z
   replace ad := ad.mono z
   replace ae := ae.mono z
   replace ab := ab.mono z
   refine wp_seq (wp_seq ?_)
   obtain ⟨bh, aq, f⟩ := bnd f
   refine wp_mid' (fun a' w' => ∃ (a5 : Array Value) (au : Heap), a' = ⟨a5, []⟩ ∧ Kn 58 [(b, 0), (d, 0)] [(tI 5 x_v10), (tP 3 1 0), (tP 2 0 0), (tB 14 bh)] a5 ∧ Mem ⟨w, h, noX⟩ au [(b, 0), (d, 0)] [⟨(K34c1 k a o l p m q), some 50⟩, ⟨(K34c2 s t_ x u y g i), some 75⟩] [] w' ∧ Heap.le ar au) ?_ ?_
   ·
    refine wp_region_from (R_runk 0 6 [11, 5, 3, 2] ((tB 11 (decide (x_v10 < ((t_.legs.length : Nat) : Int)))) :: (tI 5 x_v10) :: K34m3) cc ao.plOk (by kernel_rfl) fun bn bd => ?_)
    rcases Bool.eq_false_or_eq_true (decide (x_v10 < ((t_.legs.length : Nat) : Int))) with al | al
    ·
     rw [al, cond_true] at aq
     have cd : Kn 58 [(b, 0), (d, 0)] ((tB 11 true) :: (tI 5 x_v10) :: K34m3) bn := (bd.setB 11 true (by rfl) al).keep [11, 5, 3, 2] (by rfl)
     refine R_runk 6 3 [14, 5, 3, 2] ((tB 14 (decide (x_v10 < 9))) :: (tI 5 x_v10) :: K34m3) cd ao.plOk (by kernel_rfl) fun da ce => ?_
     refine wpFrom_end (by decide) ?_
     obtain rfl := Option.some.inj aq
     exact Exists.intro _ ⟨_, rfl, (ce.keep [5, 3, 2, 14] (by rfl)), ao, (Heap.le_refl _)⟩
    ·
     rw [al, cond_false] at aq
     have cf : Kn 58 [(b, 0), (d, 0)] ((tB 11 false) :: (tI 5 x_v10) :: K34m3) bn := (bd.setB 11 false (by rfl) al).keep [11, 5, 3, 2] (by rfl)
     refine R_runk 6 3 [14, 5, 3, 2] ((tB 14 false) :: (tI 5 x_v10) :: K34m3) cf ao.plOk (by kernel_rfl) fun db cg => ?_
     refine wpFrom_end (by decide) ?_
     obtain rfl := Option.some.inj aq
     exact Exists.intro _ ⟨_, rfl, (cg.keep [5, 3, 2, 14] (by rfl)), ao, (Heap.le_refl _)⟩
   ·
    rintro _ cz ⟨a5, au, rfl, ay, a1, aa⟩
    replace af := af.mono aa
    replace ag := ag.mono aa
    replace ah := ah.mono aa
    replace ad := ad.mono aa
    replace ae := ae.mono aa
    replace ab := ab.mono aa
    refine wp_cond_sv (bh) ay (by kernel_rfl) (fun aw => ?_) (fun aw => ?_)
    ·
     rw [aw, cond_true] at f
     refine wp_skip (wp_seq (wp_block (wp_seq (wp_region_from (R_runk 0 3 [19, 18, 5, 3, 2] ((tI 19 x_v10) :: (tS 18 g t_.legs.length i) :: (tI 5 x_v10) :: K34m3) ay a1.plOk (by kernel_rfl) fun dc ch => ?_)))))
     obtain ⟨x20, ex20, f⟩ := bnd f
     obtain ⟨co, cp, cr⟩ := idx_some ex20
     obtain ⟨a7, bi, c0, bq, cq, br⟩ := ab.get (by decide) cr
     obtain ⟨a6, a8, rfl, c1⟩ := cq
     have ap : Mem ⟨w, h, noX⟩ au [(b, 0), (d, 0), (a7, bi + (x_v10 : Int).toNat * 1)] [⟨(K34c1 k a o l p m q), some 50⟩, ⟨(K34c2 s t_ x u y g i), some 75⟩, ⟨[.slice a6 x20.length a8], none⟩] [] cz := a1.addPlc (cs := [.slice a6 x20.length a8]) (fun j c hj => br j _ (map_get hj)) rfl (by kernel_rfl) (by kernel_rfl)
     refine R_index 3 (x_v10) rfl rfl (rfl) rfl (by decide) ch (by rfl) (by rfl) (by rfl) bq (by rfl) co cp (by kernel_rfl) fun cw (ci : Kn 58 [(b, 0), (d, 0), (a7, bi + (x_v10 : Int).toNat * 1)] ((tP 20 2 0) :: (tI 19 x_v10) :: (tS 18 g t_.legs.length i) :: (tI 5 x_v10) :: K34m3) cw) => ?_
     refine R_runk 4 3 [23, 5, 3, 2] ((tB 23 (decide (((x20.length : Nat) : Int) > 10))) :: (tI 5 x_v10) :: K34m3) ci ap.plOk (by kernel_rfl) fun dd az => ?_
     refine wpFrom_end (by decide) (wp_cond_sv (decide (((x20.length : Nat) : Int) > 10)) az (by kernel_rfl) (fun ax => ?_) (fun ax => ?_))
     ·
      rw [ax, cond_true] at f
      refine wp_seq (wp_region_from (R_runk 0 1 [4] [(tB 4 false)] az ap.plOk (by kernel_rfl) fun de cj => ?_))
      refine wpFrom_end (by decide) (wp_ret ?_)
      obtain rfl := Option.some.inj f
      obtain rfl := Option.some.inj H
      exact ret_ok (.one (.c (.bool false))) cj ap (by kernel_rfl) rfl
     ·
      rw [ax, cond_false] at f
      refine wp_skip (wp_region_from (R_runk 0 3 [5, 3, 2] ((tI 5 (IntKind.i64.wrap (x_v10 + 1))) :: K34m3) az ap.plOk (by kernel_rfl) fun df ck => ?_))
      refine wpFrom_end (by decide) ?_
      exact Exists.intro a2 ⟨Nat.lt_succ_self _, Exists.intro (IntKind.i64.wrap (x_v10 + 1)) ⟨_, _, rfl, ((ck.keep [5, 3, 2] (by rfl)).cut 2 (by kernel_rfl)), (ap.cutPl 2 (by kernel_rfl)), (Heap.le_trans z aa), f⟩⟩
    ·
     rw [aw, cond_false] at f
     refine wp_exit ?_
     obtain rfl := Option.some.inj f
     exact Exists.intro () ⟨_, _, rfl, (ay.keep [3, 2] (by rfl)), a1, (Heap.le_trans z aa), rfl⟩
 ·
  rintro _ dh ⟨bj, a3, av, rfl, cl, e, ac, rfl⟩
  rw [Ex.bind_go] at H
  replace af := af.mono ac
  replace ag := ag.mono ac
  replace ah := ah.mono ac
  replace ad := ad.mono ac
  replace ae := ae.mono ac
  replace ab := ab.mono ac
  refine wp_seq (wp_region_from (R_runk 0 5 [28, 3, 2] ((tB 28 (decide (((a.holds.length : Nat) : Int) ≤ 8))) :: K34m3) cl e.plOk (by kernel_rfl) fun bo be => ?_))
  rcases Bool.eq_false_or_eq_true (decide (((a.holds.length : Nat) : Int) ≤ 8)) with am | am
  ·
   rw [am, cond_true] at H
   have cm : Kn 58 [(b, 0), (d, 0)] ((tB 28 true) :: K34m3) bo := (be.setB 28 true (by rfl) am).keep [28, 3, 2] (by rfl)
   refine R_runk 5 6 [34, 3, 2] ((tB 34 (decide (((a.turns.length : Nat) : Int) ≤ 8))) :: K34m3) cm e.plOk (by kernel_rfl) fun bp bf => ?_
   rcases Bool.eq_false_or_eq_true (decide (((a.turns.length : Nat) : Int) ≤ 8)) with an | an
   ·
    rw [an, cond_true] at H
    have bs : Kn 58 [(b, 0), (d, 0)] ((tB 34 true) :: K34m3) bp := (bf.setB 34 true (by rfl) an).keep [34, 3, 2] (by rfl)
    refine R_runk 11 6 [40, 3] [(tB 40 (decide (((a.spares.length : Nat) : Int) ≤ 8))), (tP 3 1 0)] bs e.plOk (by kernel_rfl) fun bk ba => ?_
    rcases Bool.eq_false_or_eq_true (decide (((a.spares.length : Nat) : Int) ≤ 8)) with ai | ai
    ·
     rw [ai, cond_true] at H
     have bt : Kn 58 [(b, 0), (d, 0)] [(tB 40 true), (tP 3 1 0)] bk := (ba.setB 40 true (by rfl) ai).keep [40, 3] (by rfl)
     refine R_runk 17 6 [46, 3] [(tB 46 (decide (((t_.tm.length : Nat) : Int) ≤ 8))), (tP 3 1 0)] bt e.plOk (by kernel_rfl) fun bl bb => ?_
     rcases Bool.eq_false_or_eq_true (decide (((t_.tm.length : Nat) : Int) ≤ 8)) with aj | aj
     ·
      rw [aj, cond_true] at H
      have bu : Kn 58 [(b, 0), (d, 0)] [(tB 46 true), (tP 3 1 0)] bl := (bb.setB 46 true (by rfl) aj).keep [46, 3] (by rfl)
      refine R_runk 23 6 [52, 3] [(tB 52 (decide (((t_.turns.length : Nat) : Int) ≤ 8))), (tP 3 1 0)] bu e.plOk (by kernel_rfl) fun bm bc => ?_
      rcases Bool.eq_false_or_eq_true (decide (((t_.turns.length : Nat) : Int) ≤ 8)) with ak | ak
      ·
       rw [ak, cond_true] at H
       have bv : Kn 58 [(b, 0), (d, 0)] [(tB 52 true), (tP 3 1 0)] bm := (bc.setB 52 true (by rfl) ak).keep [52, 3] (by rfl)
       refine R_runk 29 6 [4] [(tB 4 (decide (((t_.legs.length : Nat) : Int) ≤ 8)))] bv e.plOk (by kernel_rfl) fun c2 bw => ?_
       refine wpFrom_end (by decide) (wp_ret ?_)
       obtain rfl := Option.some.inj H
       exact ret_ok (.one (.c (.bool (decide (((t_.legs.length : Nat) : Int) ≤ 8))))) bw e (by kernel_rfl) rfl
      ·
       rw [ak, cond_false] at H
       have bx : Kn 58 [(b, 0), (d, 0)] [(tB 52 false), (tP 3 1 0)] bm := (bc.setB 52 false (by rfl) ak).keep [52, 3] (by rfl)
       refine R_runk 29 6 [4] [(tB 4 false)] bx e.plOk (by kernel_rfl) fun c3 bz => ?_
       refine wpFrom_end (by decide) (wp_ret ?_)
       obtain rfl := Option.some.inj H
       exact ret_ok (.one (.c (.bool false))) bz e (by kernel_rfl) rfl
     ·
      rw [aj, cond_false] at H
      have b0 : Kn 58 [(b, 0), (d, 0)] [(tB 46 false), (tP 3 1 0)] bl := (bb.setB 46 false (by rfl) aj).keep [46, 3] (by rfl)
      refine R_runk 23 12 [4] [(tB 4 false)] b0 e.plOk (by kernel_rfl) fun c4 b1 => ?_
      refine wpFrom_end (by decide) (wp_ret ?_)
      obtain rfl := Option.some.inj H
      exact ret_ok (.one (.c (.bool false))) b1 e (by kernel_rfl) rfl
    ·
     rw [ai, cond_false] at H
     have b2 : Kn 58 [(b, 0), (d, 0)] [(tB 40 false), (tP 3 1 0)] bk := (ba.setB 40 false (by rfl) ai).keep [40, 3] (by rfl)
     refine R_runk 17 18 [4] [(tB 4 false)] b2 e.plOk (by kernel_rfl) fun c5 b3 => ?_
     refine wpFrom_end (by decide) (wp_ret ?_)
     obtain rfl := Option.some.inj H
     exact ret_ok (.one (.c (.bool false))) b3 e (by kernel_rfl) rfl
   ·
    rw [an, cond_false] at H
    have b4 : Kn 58 [(b, 0), (d, 0)] ((tB 34 false) :: K34m3) bp := (bf.setB 34 false (by rfl) an).keep [34, 3, 2] (by rfl)
    refine R_runk 11 24 [4] [(tB 4 false)] b4 e.plOk (by kernel_rfl) fun c6 b5 => ?_
    refine wpFrom_end (by decide) (wp_ret ?_)
    obtain rfl := Option.some.inj H
    exact ret_ok (.one (.c (.bool false))) b5 e (by kernel_rfl) rfl
  ·
   rw [am, cond_false] at H
   have b6 : Kn 58 [(b, 0), (d, 0)] ((tB 28 false) :: K34m3) bo := (be.setB 28 false (by rfl) am).keep [28, 3, 2] (by rfl)
   refine R_runk 5 30 [4] [(tB 4 false)] b6 e.plOk (by kernel_rfl) fun c7 b7 => ?_
   refine wpFrom_end (by decide) (wp_ret ?_)
   obtain rfl := Option.some.inj H
   exact ret_ok (.one (.c (.bool false))) b7 e (by kernel_rfl) rfl

abbrev K36c1 (j : Option Addr) (a : Acts) (m : Nat) (k : Option Addr) (o : Nat) (l : Option Addr) (p : Nat) : List SC := [.slice j a.holds.length m, .slice k a.turns.length o, .slice l a.spares.length p]
abbrev K36c2 (b : Option Addr) (r_ : Route) (f : Nat) (d : Option Addr) (g : Nat) (e : Option Addr) (i : Nat) : List SC := [.slice b r_.legs.length f, .int .i64 r_.turn.lo, .int .i64 r_.turn.hi, .slice d r_.buses.length g, .slice e r_.spares.length i, .int .i64 r_.unit, .int .i64 r_.gap, .int .i64 r_.fr, .int .i64 r_.to_]
set_option maxRecDepth 100000 in
set_option maxHeartbeats 4000000 in
theorem law_fault_ok (n : Nat) {h : Heap} {w : World} (hh : Has h w) (r_ : Route) {cs_r_ : List Value} (hx_r_ : rep h r_ cs_r_) (a : Acts) {cs_a : List Value} (hx_a : rep h a cs_a) {r : Int} (H : law_fault n r_ a = some r) :
  Calls Try.prog 36 #[.agg cs_r_.toArray, .agg cs_a.toArray] w (Ret (fun h v => v = .int .i64 r) h w) := by
 obtain ⟨_, _, rfl, ⟨b, f, rfl, y⟩, ⟨_, _, rfl, ⟨_, _, rfl, rfl, rfl⟩, ⟨_, _, rfl, ⟨d, g, rfl, z⟩, ⟨_, _, rfl, ⟨e, i, rfl, aa⟩, ⟨_, _, rfl, rfl, ⟨_, _, rfl, rfl, ⟨_, _, rfl, rfl, rfl⟩⟩⟩⟩⟩⟩⟩ := hx_r_
 obtain ⟨_, _, rfl, ⟨j, m, rfl, ac⟩, ⟨_, _, rfl, ⟨k, o, rfl, ad⟩, ⟨l, p, rfl, ae⟩⟩⟩ := hx_a
 refine enter 15 [.agg (K36c2 b r_ f d g e i), .agg (K36c1 j a m k o l p)] Try.func36 rfl rfl rfl rfl fun t hk => ?_
 have hm := Mem.begin h w hh
 unfold law_fault at H
 refine wp_seq (wp_region_from (wpFrom_loud _ rfl (rfl) fun K hK => ?_))
 refine wp_box (.agg (K36c2 b r_ f d g e i)) hk hm rfl rfl (by decide) (by kernel_rfl) (by kernel_rfl) (by kernel_rfl) fun s a2 a6 (ao : Kn 15 [(s, 0)] [(tP 2 0 0), (tA 0 (K36c2 b r_ f d g e i)), (tA 1 (K36c1 j a m k o l p))] a2) (a1 : Mem ⟨w, h, noX⟩ h [(s, 0)] [⟨(K36c2 b r_ f d g e i), some 28⟩] [] a6) => hK _ _ ?_
 refine wpFrom_loud _ rfl (rfl) fun K hK => ?_
 refine wp_box (.agg (K36c1 j a m k o l p)) ao a1 rfl rfl (by decide) (by kernel_rfl) (by kernel_rfl) (by kernel_rfl) fun af a3 a7 (ap : Kn 15 [(s, 0), (af, 0)] [(tP 3 1 0), (tP 2 0 0), (tA 0 (K36c2 b r_ f d g e i)), (tA 1 (K36c1 j a m k o l p))] a3) (ag : Mem ⟨w, h, noX⟩ h [(s, 0), (af, 0)] [⟨(K36c2 b r_ f d g e i), some 28⟩, ⟨(K36c1 j a m k o l p), some 50⟩] [] a7) => hK _ _ ?_
 refine R_runk 2 1 [3, 2] [(tP 3 1 0), (tP 2 0 0)] ap ag.plOk (by kernel_rfl) fun a9 aq => ?_
 refine wpFrom_end (by decide) (wp_seq (wp_seq (wp_region_from (R_runk 0 1 [6, 3, 2] [(tA 6 (K36c2 b r_ f d g e i)), (tP 3 1 0), (tP 2 0 0)] aq ag.plOk (by kernel_rfl) fun ba ar => ?_))))
 obtain ⟨x7, ex7, H⟩ := bnd H
 refine wpFrom_loud _ rfl (rfl) fun K hK => ?_
 refine wp_call [.agg (K36c2 b r_ f d g e i)] _ ar ag rfl rfl (by decide) (by rfl) rfl (fun _ _ => by kernel_rfl) (ref_Fault_ok n ag.has r_ ((rep_pair (rep_slice y) (rep_pair (rep_pair rep_int rep_int) (rep_pair (rep_slice z) (rep_pair (rep_slice aa) (rep_pair rep_int (rep_pair rep_int (rep_pair rep_int rep_int))))))) : rep h r_ _) ex7) fun bi al bk am u q => ?_
 replace y := y.mono u
 replace z := z.mono u
 replace aa := aa.mono u
 replace ac := ac.mono u
 replace ad := ad.mono u
 replace ae := ae.mono u
 obtain rfl := am
 refine ⟨.one (.c (.int .i64 x7)), rfl, fun a4 (au : Kn 15 [(s, 0), (af, 0)] [(tI 7 x7), (tA 6 (K36c2 b r_ f d g e i)), (tP 3 1 0), (tP 2 0 0)] a4) => hK _ _ ?_⟩
 refine R_runk 2 1 [5, 3, 2] [(tI 5 x7), (tP 3 1 0), (tP 2 0 0)] au q.plOk (by kernel_rfl) fun bb av => ?_
 refine wpFrom_end (by decide) (wp_seq (wp_region_from (R_runk 0 2 [9, 5, 3, 2] [(tB 9 (x7 != 0)), (tI 5 x7), (tP 3 1 0), (tP 2 0 0)] av q.plOk (by kernel_rfl) fun bc aj => ?_)))
 refine wpFrom_end (by decide) (wp_cond_sv ((x7 != 0)) aj (by kernel_rfl) (fun ah => ?_) (fun ah => ?_))
 ·
  rw [ah, cond_true] at H
  refine wp_seq (wp_region_from (R_runk 0 2 [4] [(tI 4 x7)] aj q.plOk (by kernel_rfl) fun bd aw => ?_))
  refine wpFrom_end (by decide) (wp_ret ?_)
  obtain rfl := Option.some.inj H
  exact ret_ok (.one (.c (.int .i64 x7))) aw q (by kernel_rfl) rfl
 ·
  rw [ah, cond_false] at H
  refine wp_skip (wp_seq (wp_seq (wp_region_from (R_runk 0 2 [12, 11] [(tA 12 (K36c1 j a m k o l p)), (tA 11 (K36c2 b r_ f d g e i))] aj q.plOk (by kernel_rfl) fun be ax => ?_))))
  obtain ⟨x13, ex13, H⟩ := bnd H
  refine wpFrom_loud _ rfl (rfl) fun K hK => ?_
  refine wp_call [.agg (K36c2 b r_ f d g e i), .agg (K36c1 j a m k o l p)] _ ax q rfl rfl (by decide) (by rfl) rfl (fun _ _ => by kernel_rfl) (ref_AreActs_ok n q.has r_ ((rep_pair (rep_slice y) (rep_pair (rep_pair rep_int rep_int) (rep_pair (rep_slice z) (rep_pair (rep_slice aa) (rep_pair rep_int (rep_pair rep_int (rep_pair rep_int rep_int))))))) : rep al r_ _) a ((rep_pair (rep_slice ac) (rep_pair (rep_slice ad) (rep_slice ae))) : rep al a _) ex13) fun bj a8 bl an x ab => ?_
  replace y := y.mono x
  replace z := z.mono x
  replace aa := aa.mono x
  replace ac := ac.mono x
  replace ad := ad.mono x
  replace ae := ae.mono x
  obtain rfl := an
  refine ⟨.one (.c (.bool x13)), rfl, fun a5 (ay : Kn 15 [(s, 0), (af, 0)] [(tB 13 x13), (tA 12 (K36c1 j a m k o l p)), (tA 11 (K36c2 b r_ f d g e i))] a5) => hK _ _ ?_⟩
  refine R_runk 3 1 [14] [(tB 14 (!x13))] ay ab.plOk (by kernel_rfl) fun bf ak => ?_
  refine wpFrom_end (by decide) (wp_cond_sv ((!x13)) ak (by kernel_rfl) (fun ai => ?_) (fun ai => ?_))
  ·
   rw [ai, cond_true] at H
   refine wp_seq (wp_region_from (R_runk 0 1 [4] [(tI 4 2)] ak ab.plOk (by kernel_rfl) fun bg az => ?_))
   refine wpFrom_end (by decide) (wp_ret ?_)
   obtain rfl := Option.some.inj H
   exact ret_ok (.one (.c (.int .i64 2))) az ab (by kernel_rfl) rfl
  ·
   rw [ai, cond_false] at H
   refine wp_skip (wp_seq (wp_region_from (R_runk 0 1 [4] [(tI 4 0)] ak ab.plOk (by kernel_rfl) fun bh a0 => ?_)))
   refine wpFrom_end (by decide) (wp_ret ?_)
   obtain rfl := Option.some.inj H
   exact ret_ok (.one (.c (.int .i64 0))) a0 ab (by kernel_rfl) rfl

abbrev K24c1 : List SC := [.slice none 0 0, .slice none 0 0, .slice none 0 0]
abbrev K24c2 (j : Option Addr) (a : Acts) (m : Nat) (k : Option Addr) (o : Nat) (l : Option Addr) (p : Nat) : List SC := [.slice j a.holds.length m, .slice k a.turns.length o, .slice l a.spares.length p]
abbrev K24c3 (b : Option Addr) (r_ : Route) (f : Nat) (d : Option Addr) (g : Nat) (e : Option Addr) (i : Nat) : List SC := [.slice b r_.legs.length f, .int .i64 r_.turn.lo, .int .i64 r_.turn.hi, .slice d r_.buses.length g, .slice e r_.spares.length i, .int .i64 r_.unit, .int .i64 r_.gap, .int .i64 r_.fr, .int .i64 r_.to_]
abbrev K24m4 : TM := [(tP 3 1 0), (tP 2 0 0)]
set_option maxRecDepth 100000 in
set_option maxHeartbeats 4000000 in
theorem law_ready_ok (n : Nat) {h : Heap} {w : World} (hh : Has h w) (r_ : Route) {cs_r_ : List Value} (hx_r_ : rep h r_ cs_r_) (a : Acts) {cs_a : List Value} (hx_a : rep h a cs_a) {r : Bool} (H : law_ready n r_ a = some r) :
  Calls Try.prog 24 #[.agg cs_r_.toArray, .agg cs_a.toArray] w (Ret (fun h v => v = .bool r) h w) := by
 obtain ⟨_, _, rfl, ⟨b, f, rfl, z⟩, ⟨_, _, rfl, ⟨_, _, rfl, rfl, rfl⟩, ⟨_, _, rfl, ⟨d, g, rfl, aa⟩, ⟨_, _, rfl, ⟨e, i, rfl, ab⟩, ⟨_, _, rfl, rfl, ⟨_, _, rfl, rfl, ⟨_, _, rfl, rfl, rfl⟩⟩⟩⟩⟩⟩⟩ := hx_r_
 obtain ⟨_, _, rfl, ⟨j, m, rfl, u⟩, ⟨_, _, rfl, ⟨k, o, rfl, x⟩, ⟨l, p, rfl, y⟩⟩⟩ := hx_a
 refine enter 18 [.agg (K24c3 b r_ f d g e i), .agg (K24c2 j a m k o l p)] Try.func24 rfl rfl rfl rfl fun t hk => ?_
 have hm := Mem.begin h w hh
 unfold law_ready at H
 refine wp_seq (wp_region_from (wpFrom_loud _ rfl (rfl) fun K hK => ?_))
 refine wp_box (.agg (K24c3 b r_ f d g e i)) hk hm rfl rfl (by decide) (by kernel_rfl) (by kernel_rfl) (by kernel_rfl) fun q bd bi (ay : Kn 18 [(q, 0)] [(tP 2 0 0), (tA 0 (K24c3 b r_ f d g e i)), (tA 1 (K24c2 j a m k o l p))] bd) (bc : Mem ⟨w, h, noX⟩ h [(q, 0)] [⟨(K24c3 b r_ f d g e i), some 28⟩] [] bi) => hK _ _ ?_
 refine wpFrom_loud _ rfl (rfl) fun K hK => ?_
 refine wp_box (.agg (K24c2 j a m k o l p)) ay bc rfl rfl (by decide) (by kernel_rfl) (by kernel_rfl) (by kernel_rfl) fun s be bj (az : Kn 18 [(q, 0), (s, 0)] [(tP 3 1 0), (tP 2 0 0), (tA 0 (K24c3 b r_ f d g e i)), (tA 1 (K24c2 j a m k o l p))] be) (aj : Mem ⟨w, h, noX⟩ h [(q, 0), (s, 0)] [⟨(K24c3 b r_ f d g e i), some 28⟩, ⟨(K24c2 j a m k o l p), some 50⟩] [] bj) => hK _ _ ?_
 refine R_runk 2 1 [3, 2] K24m4 az aj.plOk (by kernel_rfl) fun bl a0 => ?_
 refine wpFrom_end (by decide) (wp_seq (wp_region_from (R_runk 0 1 [5, 3, 2] ((tA 5 (K24c3 b r_ f d g e i)) :: K24m4) a0 aj.plOk (by kernel_rfl) fun bm a1 => ?_)))
 obtain ⟨x6, ex6, H⟩ := bnd H
 refine wpFrom_loud _ rfl (rfl) fun K hK => ?_
 refine wp_call [.agg (K24c3 b r_ f d g e i)] _ a1 aj rfl rfl (by decide) (by rfl) rfl (fun _ _ => by kernel_rfl) (law_Thin_ok n aj.has r_ ((rep_pair (rep_slice z) (rep_pair (rep_pair rep_int rep_int) (rep_pair (rep_slice aa) (rep_pair (rep_slice ab) (rep_pair rep_int (rep_pair rep_int (rep_pair rep_int rep_int))))))) : rep h r_ _) ex6) fun bs ak bv av ac af => ?_
 replace z := z.mono ac
 replace aa := aa.mono ac
 replace ab := ab.mono ac
 replace u := u.mono ac
 replace x := x.mono ac
 replace y := y.mono ac
 obtain rfl := av
 refine ⟨.one (.c (.bool x6)), rfl, fun bf (a2 : Kn 18 [(q, 0), (s, 0)] ((tB 6 x6) :: (tA 5 (K24c3 b r_ f d g e i)) :: K24m4) bf) => hK _ _ ?_⟩
 refine R_runk 2 1 [7, 3, 2] ((tB 7 x6) :: K24m4) a2 af.plOk (by kernel_rfl) fun ar am => ?_
 rcases Bool.eq_false_or_eq_true (x6) with ah | ah
 ·
  rw [ah, cond_true] at H
  have a3 : Kn 18 [(q, 0), (s, 0)] ((tB 7 true) :: K24m4) ar := (am.setB 7 true (by rfl) ah).keep [7, 3, 2] (by rfl)
  refine R_runk 3 2 [9, 8, 7, 3, 2] ((tA 9 K24c1) :: (tA 8 (K24c2 j a m k o l p)) :: (tB 7 true) :: K24m4) a3 af.plOk (by kernel_rfl) fun bn an => ?_
  obtain ⟨x10, ex10, H⟩ := bnd H
  refine wpFrom_loud _ rfl (wantedS_sound an (by kernel_rfl)) fun K hK => ?_
  refine wp_call [.agg (K24c2 j a m k o l p), .agg K24c1] _ an af rfl rfl (by decide) (by rfl) rfl (fun _ _ => by kernel_rfl) (law_short_ok n af.has a ((rep_pair (rep_slice u) (rep_pair (rep_slice x) (rep_slice y))) : rep ak a _) (Truth.mk ([] : List Int) ([] : List Int) ([] : List (List Int))) ((rep_pair (rep_slice RepS.nil) (rep_pair (rep_slice RepS.nil) (rep_slice RepS.nil))) : rep ak (Truth.mk ([] : List Int) ([] : List Int) ([] : List (List Int))) _) ex10) fun bt al bw aw ad ag => ?_
  replace z := z.mono ad
  replace aa := aa.mono ad
  replace ab := ab.mono ad
  replace u := u.mono ad
  replace x := x.mono ad
  replace y := y.mono ad
  obtain rfl := aw
  refine ⟨.one (.c (.bool x10)), rfl, fun bg (a4 : Kn 18 [(q, 0), (s, 0)] ((tB 10 x10) :: (tA 9 K24c1) :: (tA 8 (K24c2 j a m k o l p)) :: (tB 7 true) :: K24m4) bg) => hK _ _ ?_⟩
  refine R_runk 6 2 [12, 3, 2] ((tB 12 x10) :: K24m4) a4 ag.plOk (by kernel_rfl) fun au ao => ?_
  rcases Bool.eq_false_or_eq_true (x10) with ai | ai
  ·
   rw [ai, cond_true] at H
   have a5 : Kn 18 [(q, 0), (s, 0)] ((tB 12 true) :: K24m4) au := (ao.setB 12 true (by rfl) ai).keep [12, 3, 2] (by rfl)
   refine R_runk 8 2 [14, 13, 12] [(tA 14 (K24c2 j a m k o l p)), (tA 13 (K24c3 b r_ f d g e i)), (tB 12 true)] a5 ag.plOk (by kernel_rfl) fun bo ap => ?_
   obtain ⟨x15, ex15, H⟩ := bnd H
   refine wpFrom_loud _ rfl (wantedS_sound ap (by kernel_rfl)) fun K hK => ?_
   refine wp_call [.agg (K24c3 b r_ f d g e i), .agg (K24c2 j a m k o l p)] _ ap ag rfl rfl (by decide) (by rfl) rfl (fun _ _ => by kernel_rfl) (law_fault_ok n ag.has r_ ((rep_pair (rep_slice z) (rep_pair (rep_pair rep_int rep_int) (rep_pair (rep_slice aa) (rep_pair (rep_slice ab) (rep_pair rep_int (rep_pair rep_int (rep_pair rep_int rep_int))))))) : rep al r_ _) a ((rep_pair (rep_slice u) (rep_pair (rep_slice x) (rep_slice y))) : rep al a _) ex15) fun bu bk bx ax ae aq => ?_
   replace z := z.mono ae
   replace aa := aa.mono ae
   replace ab := ab.mono ae
   replace u := u.mono ae
   replace x := x.mono ae
   replace y := y.mono ae
   obtain rfl := ax
   refine ⟨.one (.c (.int .i64 x15)), rfl, fun bh (a6 : Kn 18 [(q, 0), (s, 0)] [(tI 15 x15), (tA 14 (K24c2 j a m k o l p)), (tA 13 (K24c3 b r_ f d g e i)), (tB 12 true)] bh) => hK _ _ ?_⟩
   refine R_runk 11 3 [4] [(tB 4 (x15 == 0))] a6 aq.plOk (by kernel_rfl) fun bp a7 => ?_
   refine wpFrom_end (by decide) (wp_ret ?_)
   obtain rfl := Option.some.inj H
   exact ret_ok (.one (.c (.bool (x15 == 0)))) a7 aq (by kernel_rfl) rfl
  ·
   rw [ai, cond_false] at H
   have a8 : Kn 18 [(q, 0), (s, 0)] ((tB 12 false) :: K24m4) au := (ao.setB 12 false (by rfl) ai).keep [12, 3, 2] (by rfl)
   refine R_runk 8 6 [4] [(tB 4 false)] a8 ag.plOk (by kernel_rfl) fun bq a9 => ?_
   refine wpFrom_end (by decide) (wp_ret ?_)
   obtain rfl := Option.some.inj H
   exact ret_ok (.one (.c (.bool false))) a9 ag (by kernel_rfl) rfl
 ·
  rw [ah, cond_false] at H
  have ba : Kn 18 [(q, 0), (s, 0)] ((tB 7 false) :: K24m4) ar := (am.setB 7 false (by rfl) ah).keep [7, 3, 2] (by rfl)
  refine R_runk 3 11 [4] [(tB 4 false)] ba af.plOk (by kernel_rfl) fun br bb => ?_
  refine wpFrom_end (by decide) (wp_ret ?_)
  obtain rfl := Option.some.inj H
  exact ret_ok (.one (.c (.bool false))) bb af (by kernel_rfl) rfl
end Go.Proofs.Ytokchpjijlebiaa
