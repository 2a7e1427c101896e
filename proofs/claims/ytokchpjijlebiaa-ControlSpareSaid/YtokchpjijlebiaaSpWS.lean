/- Each call computes its plain function. -/
import Derived.Test.YtokchpjijlebiaaProg
import Derived.Test.YtokchpjijlebiaaSpP0
import Derived.Test.YtokchpjijlebiaaSpWP
set_option linter.all false
namespace Go.Proofs.Ytokchpjijlebiaa
open Go Go.RowKit
open Rep (rep)
open KRep (kv)
open VRep (rv)
abbrev K106c1 (p : Option Addr) (q2 : Times) (q : Nat) : List SC := [.slice p q2.legs.length q, .int .i64 q2.turn]
abbrev K106c2 (q0 : Trip) : List SC := [.int .i64 q0.stop, .int .i64 q0.tm, .int .i64 q0.turned]
abbrev K106c3 (d : Option Addr) (q1 : Route) (i : Nat) (f : Option Addr) (k : Nat) (g : Option Addr) (m : Nat) : List SC := [.slice d q1.legs.length i, .int .i64 q1.turn.lo, .int .i64 q1.turn.hi, .slice f q1.buses.length k, .slice g q1.spares.length m, .int .i64 q1.unit, .int .i64 q1.gap, .int .i64 q1.fr, .int .i64 q1.to_]
set_option maxRecDepth 100000 in
set_option maxHeartbeats 4000000 in
theorem control_Route_passes_1_it (n : Nat) {h : Heap} {w : World} {σ : Type} {J : σ → Heap → World → Prop} (hJ : JOk J) {l : Nat} (yield_ : σ → Int → Int → Option (σ × Bool)) (hy : ∀ (s : σ) (x0 : Int) (x1 : Int) (s' : σ) (b : Bool) (h : Heap) (w : World), J s h w → yield_ s x0 x1 = some (s', b) → Yields Try.prog l #[.int .i64 x0, .int .i64 x1] w (fun c w' => c = b ∧ ∃ h', Heap.le h h' ∧ J s' h' w')) (s : σ) (hw : J s h w) (q0 : Trip) {b_q0 : Nat} (hb_q0 : BoxS h b_q0 q0) (q1 : Route) {b_q1 : Nat} (hb_q1 : BoxS h b_q1 q1) (q2 : Times) {b_q2 : Nat} (hb_q2 : BoxS h b_q2 q2) {r : σ} (H : control_Route_passes_1 n yield_ s q0 q1 q2 = some r) :
  Calls Try.prog 106 #[.func (.yield l) #[] #[], .pointer (some ⟨b_q0, 0, none⟩), .pointer (some ⟨b_q1, 0, none⟩), .pointer (some ⟨b_q2, 0, none⟩)] w (fun en w' => en = .returned (.tuple #[]) ∧ ∃ h', Heap.le h h' ∧ J r h' w') := by
 obtain ⟨_, hx_q0, hc_q0⟩ := id hb_q0
 obtain ⟨_, _, rfl, rfl, ⟨_, _, rfl, rfl, rfl⟩⟩ := hx_q0
 obtain ⟨_, hx_q1, hc_q1⟩ := id hb_q1
 obtain ⟨_, _, rfl, ⟨d, i, rfl, aa⟩, ⟨_, _, rfl, ⟨_, _, rfl, rfl, rfl⟩, ⟨_, _, rfl, ⟨f, k, rfl, ab⟩, ⟨_, _, rfl, ⟨g, m, rfl, ac⟩, ⟨_, _, rfl, rfl, ⟨_, _, rfl, rfl, ⟨_, _, rfl, rfl, rfl⟩⟩⟩⟩⟩⟩⟩ := hx_q1
 obtain ⟨_, hx_q2, hc_q2⟩ := id hb_q2
 obtain ⟨_, _, rfl, ⟨p, q, rfl, ae⟩, rfl⟩ := hx_q2
 have hh := hJ.has _ _ _ hw
 refine enter' (e := [(b_q0, 0), (b_q1, 0), (b_q2, 0)]) 49 [.c (.func (.yield l) #[] #[]), .c (.ptr 0 0), .c (.ptr 1 0), .c (.ptr 2 0)] Try.func106 rfl rfl rfl rfl fun t hk => ?_
 have hm := Mem.begin h w hh
 replace hm := hm.addPlc (o := 0) (cs := [.int .i64 q0.stop, .int .i64 q0.tm, .int .i64 q0.turned]) (fun j c hj => by rw [Nat.zero_add]; exact hc_q0 j _ (map_get hj)) rfl (by kernel_rfl) (by kernel_rfl)
 replace hm := hm.addPlc (o := 0) (cs := [.slice d q1.legs.length i, .int .i64 q1.turn.lo, .int .i64 q1.turn.hi, .slice f q1.buses.length k, .slice g q1.spares.length m, .int .i64 q1.unit, .int .i64 q1.gap, .int .i64 q1.fr, .int .i64 q1.to_]) (fun j c hj => by rw [Nat.zero_add]; exact hc_q1 j _ (map_get hj)) rfl (by kernel_rfl) (by kernel_rfl)
 replace hm := hm.addPlc (o := 0) (cs := [.slice p q2.legs.length q, .int .i64 q2.turn]) (fun j c hj => by rw [Nat.zero_add]; exact hc_q2 j _ (map_get hj)) rfl (by kernel_rfl) (by kernel_rfl)
 replace hm : Mem ⟨w, h, noX⟩ h [(b_q0, 0), (b_q1, 0), (b_q2, 0)] [⟨(K106c2 q0), none⟩, ⟨(K106c3 d q1 i f k g m), none⟩, ⟨(K106c1 p q2 q), none⟩] [] w := hm
 unfold control_Route_passes_1 at H
 refine wp_seq (wp_region_G (by kernel_rfl) ?_)
 replace hm := hm.drew
 refine wpG_of_D [] [(b_q0, 0), (b_q1, 0), (b_q2, 0)] [⟨(K106c2 q0), none⟩, ⟨(K106c3 d q1 i f k g m), none⟩, ⟨(K106c1 p q2 q), none⟩] ?_
 refine Dr [0, 1, 2, 3, 4, 5] (dn 5) [(tI 6 q0.tm), (tI 5 q0.stop), (0, .one (.c (.func (.yield l) #[] #[]))), (tP 1 0 0), (tP 2 1 0), (tP 3 2 0)] hk hm fun ct bt => ?_
 refine wpD_end (by kernel_rfl) ?_
 obtain ⟨bh, a9, H⟩ := bnd H
 refine wp_mid' (fun a' w' => ∃ (ap : σ) (a7 : World) (ax : Heap) (a3 : Array Value) (an : Heap), a' = ⟨a3, []⟩ ∧ Kn 49 [(b_q0, 0), (b_q1, 0), (b_q2, 0)] [] a3 ∧ Mem ⟨a7, ax, noX⟩ an [(b_q0, 0), (b_q1, 0), (b_q2, 0)] [⟨(K106c2 q0), none⟩, ⟨(K106c3 d q1 i f k g m), none⟩, ⟨(K106c1 p q2 q), none⟩] [] w' ∧ Heap.le h an ∧ J ap ax a7 ∧ bh = .go ap) ?_ ?_
 ·
  refine wp_block ?_
  refine wp_loop_n (fun cf a' w' => ∃ (x_v10 : Int) (x_v11 : Int) (x_v12 : σ) (aq : World) (ao : Heap) (a4 : Array Value) (ak : Heap), a' = ⟨a4, []⟩ ∧ Kn 49 [(b_q0, 0), (b_q1, 0), (b_q2, 0)] [(tI 6 x_v10), (tI 5 x_v11), (0, .one (.c (.func (.yield l) #[] #[]))), (tP 1 0 0), (tP 2 1 0), (tP 3 2 0)] a4 ∧ Mem ⟨aq, ao, noX⟩ ak [(b_q0, 0), (b_q1, 0), (b_q2, 0)] [⟨(K106c2 q0), none⟩, ⟨(K106c3 d q1 i f k g m), none⟩, ⟨(K106c1 p q2 q), none⟩] [] w' ∧ Heap.le h ak ∧ J x_v12 ao aq ∧ control_Route_passes_1_l1 cf yield_ q0 q1 q2 x_v10 x_v11 x_v12 = some bh) n ?_ ?_
  ·
   exact Exists.intro q0.tm ⟨q0.stop, s, w, h, _, _, rfl, bt.kp, hm, (Heap.le_refl _), hw, a9⟩
  ·
   rintro aj _ c6 ⟨x_v10, x_v11, x_v12, aq, ao, a4, ak, rfl, bu, a1, u, ba, a⟩
   clear a9
   obtain _ | aj := aj
   ·
    rw [control_Route_passes_1_l1] at a; cases a
   rw [control_Route_passes_1_l1] at a
   replace hb_q0 := hb_q0.mono u
   replace aa := aa.mono u
   replace ab := ab.mono u
   replace ac := ac.mono u
   replace hb_q1 := hb_q1.mono u
   replace ae := ae.mono u
   replace hb_q2 := hb_q2.mono u
   refine wp_seq (wp_seq ?_)
   obtain ⟨af, z, a⟩ := bnd a
   refine wp_mid' (fun a' w' => ∃ (ag : World) (ad : Heap) (a5 : Array Value) (ah : Heap), a' = ⟨a5, []⟩ ∧ Kn 49 [(b_q0, 0), (b_q1, 0), (b_q2, 0)] [(tI 6 x_v10), (tI 5 x_v11), (0, .one (.c (.func (.yield l) #[] #[]))), (tP 1 0 0), (tP 2 1 0), (tP 3 2 0), (tB 19 af.1)] a5 ∧ Mem ⟨ag, ad, noX⟩ ah [(b_q0, 0), (b_q1, 0), (b_q2, 0)] [⟨(K106c2 q0), none⟩, ⟨(K106c3 d q1 i f k g m), none⟩, ⟨(K106c1 p q2 q), none⟩] [] w' ∧ Heap.le ak ah ∧ J af.2 ad ag) ?_ ?_
   ·
    refine wp_region_fromI ?_
    refine RI_runk 0 2 [12, 11, 6, 5, 0, 1, 2, 3] [(tI 12 x_v11), (tA 11 (K106c3 d q1 i f k g m)), (tI 6 x_v10), (tI 5 x_v11), (0, .one (.c (.func (.yield l) #[] #[]))), (tP 1 0 0), (tP 2 1 0), (tP 3 2 0)] bu a1.plOk (by kernel_rfl) fun cu bv => ?_
    obtain ⟨x13, ex13, z⟩ := bnd z
    refine wpFromI_loud _ rfl (rfl) fun K hK => ?_
    refine wc [.agg (K106c3 d q1 i f k g m), .c (.int .i64 x_v11)] bv a1 (control_Route_stop_ok aj a1.has q1 ((rep_pair (rep_slice aa) (rep_pair (rep_pair rep_int rep_int) (rep_pair (rep_slice ab) (rep_pair (rep_slice ac) (rep_pair rep_int (rep_pair rep_int (rep_pair rep_int rep_int))))))) : rep ak q1 _) x_v11 ex13) fun c3 cn c7 bl y ai => ?_
    replace hb_q0 := hb_q0.mono y
    replace aa := aa.mono y
    replace ab := ab.mono y
    replace ac := ac.mono y
    replace hb_q1 := hb_q1.mono y
    replace ae := ae.mono y
    replace hb_q2 := hb_q2.mono y
    obtain rfl := bl
    refine ⟨.one (.c (.bool x13)), rfl, fun ch (bw : Kn 49 [(b_q0, 0), (b_q1, 0), (b_q2, 0)] [(tB 13 x13), (tI 12 x_v11), (tA 11 (K106c3 d q1 i f k g m)), (tI 6 x_v10), (tI 5 x_v11), (0, .one (.c (.func (.yield l) #[] #[]))), (tP 1 0 0), (tP 2 1 0), (tP 3 2 0)] ch) => hK _ _ ?_⟩
    refine RI_runk 3 1 [14, 6, 5, 0, 1, 2, 3] [(tB 14 x13), (tI 6 x_v10), (tI 5 x_v11), (0, .one (.c (.func (.yield l) #[] #[]))), (tP 1 0 0), (tP 2 1 0), (tP 3 2 0)] bw ai.plOk (by kernel_rfl) fun bj bc => ?_
    rcases Bool.eq_false_or_eq_true (x13) with al | al
    ·
     rw [al, cond_true] at z
     have bx : Kn 49 [(b_q0, 0), (b_q1, 0), (b_q2, 0)] [(tB 14 true), (tI 6 x_v10), (tI 5 x_v11), (0, .one (.c (.func (.yield l) #[] #[]))), (tP 1 0 0), (tP 2 1 0), (tP 3 2 0)] bj := (bc.setB 14 true (by rfl) al).kp
     refine RI_runk 4 3 [17, 16, 15, 14, 6, 5, 0, 1, 2, 3] [(tI 17 x_v10), (tI 16 x_v11), (15, .one (.c (.func (.yield l) #[] #[]))), (tB 14 true), (tI 6 x_v10), (tI 5 x_v11), (0, .one (.c (.func (.yield l) #[] #[]))), (tP 1 0 0), (tP 2 1 0), (tP 3 2 0)] bx ai.plOk (by kernel_rfl) fun cv bd => ?_
     obtain ⟨x18, ex18, z⟩ := bnd z
     refine RI_yield 7 [.c (.int .i64 x_v11), .c (.int .i64 x_v10)] _ bd rfl rfl (wantedS_sound bd (by kernel_rfl)) rfl (by decide) (by rfl) (by rfl) rfl (hy _ x_v11 x_v10 _ _ _ _ (ai.J hJ ba) ex18) fun cl a6 bm ci bz => ?_
     obtain ⟨rfl, ar, bf, bb⟩ := bm
     have b0 : Kn 49 [(b_q0, 0), (b_q1, 0), (b_q2, 0)] [(tB 18 x18.2), (tI 17 x_v10), (tI 16 x_v11), (15, .one (.c (.func (.yield l) #[] #[]))), (tB 14 true), (tI 6 x_v10), (tI 5 x_v11), (0, .one (.c (.func (.yield l) #[] #[]))), (tP 1 0 0), (tP 2 1 0), (tP 3 2 0)] ci := bz.kp
     have bg : Mem ⟨a6, ar, noX⟩ ar [(b_q0, 0), (b_q1, 0), (b_q2, 0)] [⟨(K106c2 q0), none⟩, ⟨(K106c3 d q1 i f k g m), none⟩, ⟨(K106c1 p q2 q), none⟩] [] a6 := ai.rebase bf (hJ.has _ _ _ bb) (by kernel_rfl)
     refine RI_runk 8 1 [19, 6, 5, 0, 1, 2, 3] [(tB 19 x18.2), (tI 6 x_v10), (tI 5 x_v11), (0, .one (.c (.func (.yield l) #[] #[]))), (tP 1 0 0), (tP 2 1 0), (tP 3 2 0)] b0 bg.plOk (by kernel_rfl) fun cw b1 => ?_
     refine wpFromI_end (by decide) ?_
     obtain rfl := Option.some.inj z
     exact Exists.intro a6 ⟨ar, _, _, rfl, b1.kp, bg, (Heap.le_trans y bf), bb⟩
    ·
     rw [al, cond_false] at z
     have b2 : Kn 49 [(b_q0, 0), (b_q1, 0), (b_q2, 0)] [(tB 14 false), (tI 6 x_v10), (tI 5 x_v11), (0, .one (.c (.func (.yield l) #[] #[]))), (tP 1 0 0), (tP 2 1 0), (tP 3 2 0)] bj := (bc.setB 14 false (by rfl) al).kp
     refine RI_runk 4 5 [19, 6, 5, 0, 1, 2, 3] [(tB 19 false), (tI 6 x_v10), (tI 5 x_v11), (0, .one (.c (.func (.yield l) #[] #[]))), (tP 1 0 0), (tP 2 1 0), (tP 3 2 0)] b2 ai.plOk (by kernel_rfl) fun cx b3 => ?_
     refine wpFromI_end (by decide) ?_
     obtain rfl := Option.some.inj z
     exact Exists.intro aq ⟨ao, _, _, rfl, b3.kp, ai, y, ba⟩
   ·
    rintro _ ck ⟨ag, ad, a5, ah, rfl, ay, x, v, am⟩
    replace hb_q0 := hb_q0.mono v
    replace aa := aa.mono v
    replace ab := ab.mono v
    replace ac := ac.mono v
    replace hb_q1 := hb_q1.mono v
    replace ae := ae.mono v
    replace hb_q2 := hb_q2.mono v
    refine wC (af.1) ay (fun au => ?_) (fun au => ?_)
    ·
     rw [au, cond_true] at a
     refine wp_skip (wp_block (wp_block (wp_seq (wp_region_from (Rk 0 5 [(tB 20 (x_v11 == q0.turned)), (tI 6 x_v10), (tI 5 x_v11), (0, .one (.c (.func (.yield l) #[] #[]))), (tP 1 0 0), (tP 2 1 0), (tP 3 2 0)] ay x fun cy az => ?_)))))
     refine wf (wC ((x_v11 == q0.turned)) az (fun av => ?_) (fun av => ?_))
     ·
      rw [av, cond_true] at a
      refine wp_region_G (by kernel_rfl) ?_
      replace x := x.drew
      refine wpG_of_D [] [(b_q0, 0), (b_q1, 0), (b_q2, 0)] [⟨(K106c2 q0), none⟩, ⟨(K106c3 d q1 i f k g m), none⟩, ⟨(K106c1 p q2 q), none⟩] ?_
      refine Dr [0, 3, 5, 6, 7, 8] [8, 7, 6, 5, 3, 0] [(tI 33 (IntKind.i64.wrap (x_v10 + q2.turn))), (tI 28 x_v11), (tA 25 (K106c3 d q1 i f k g m)), (0, .one (.c (.func (.yield l) #[] #[]))), (tP 1 0 0), (tP 2 1 0), (tP 3 2 0)] az x fun cz b4 => ?_
      obtain ⟨x26, ex26, a⟩ := bnd a
      refine Dl 1 fun K hK => ?_
      refine wc [.agg (K106c3 d q1 i f k g m)] b4 x (control_Route_stops_ok aj x.has q1 ((rep_pair (rep_slice aa) (rep_pair (rep_pair rep_int rep_int) (rep_pair (rep_slice ab) (rep_pair (rep_slice ac) (rep_pair rep_int (rep_pair rep_int (rep_pair rep_int rep_int))))))) : rep ah q1 _) ex26) fun c4 co c8 bn b9 a2 => ?_
      obtain rfl := bn
      refine ⟨.one (.c (.int .i64 x26)), rfl, fun cj (b5 : Kn 49 [(b_q0, 0), (b_q1, 0), (b_q2, 0)] [(tI 26 x26), (tI 33 (IntKind.i64.wrap (x_v10 + q2.turn))), (tI 28 x_v11), (tA 25 (K106c3 d q1 i f k g m)), (0, .one (.c (.func (.yield l) #[] #[]))), (tP 1 0 0), (tP 2 1 0), (tP 3 2 0)] cj) => hK _ _ a2.plOk ?_⟩
      refine Dr [2, 4, 9, 10] [10, 9, 4, 2, 1, 8, 7, 6, 5, 3, 0] [(tI 6 (IntKind.i64.wrap (x_v10 + q2.turn))), (tI 5 (IntKind.i64.wrap ((IntKind.i64.wrap (x26 - 1)) - x_v11))), (0, .one (.c (.func (.yield l) #[] #[]))), (tP 1 0 0), (tP 2 1 0), (tP 3 2 0)] b5 a2 fun c0 b6 => ?_
      refine wpD_end (by kernel_rfl) ?_
      exact Exists.intro aj ⟨Nat.lt_succ_self _, Exists.intro (IntKind.i64.wrap (x_v10 + q2.turn)) ⟨(IntKind.i64.wrap ((IntKind.i64.wrap (x26 - 1)) - x_v11)), af.2, ag, ad, _, _, rfl, b6.kp, a2, (Heap.le_trans u (Heap.le_trans v b9)), am, a⟩⟩
     ·
      rw [av, cond_false] at a
      refine wp_seq (wp_region_from (Rk 0 6 [(tB 34 (decide (x_v11 < ((q2.legs.length : Nat) : Int)))), (tI 6 x_v10), (tI 5 x_v11), (0, .one (.c (.func (.yield l) #[] #[]))), (tP 1 0 0), (tP 2 1 0), (tP 3 2 0)] az x fun c1 be => ?_))
      refine wf (wC (decide (x_v11 < ((q2.legs.length : Nat) : Int))) be (fun aw => ?_) (fun aw => ?_))
      ·
       rw [aw, cond_true] at a
       refine wp_seq (wp_region_from (Rk 0 4 [(tI 43 x_v11), (tS 42 p q2.legs.length q), (tI 40 x_v10), (tI 5 x_v11), (0, .one (.c (.func (.yield l) #[] #[]))), (tP 1 0 0), (tP 2 1 0), (tP 3 2 0)] be x fun c2 b7 => ?_))
       obtain ⟨x44, ex44, a⟩ := bnd a
       obtain ⟨cb, cc, ce⟩ := idx_some ex44
       obtain ⟨a8, bi, cm, bo, cd, bp⟩ := ae.get (by decide) ce
       obtain rfl := cd
       have a0 : Mem ⟨ag, ad, noX⟩ ah [(b_q0, 0), (b_q1, 0), (b_q2, 0), (a8, bi + (x_v11 : Int).toNat * 1)] [⟨(K106c2 q0), none⟩, ⟨(K106c3 d q1 i f k g m), none⟩, ⟨(K106c1 p q2 q), none⟩, ⟨[.int .i64 x44], none⟩] [] ck := x.addPlc (cs := [.int .i64 x44]) (fun j c hj => bp j _ (map_get hj)) rfl (by kernel_rfl) (by kernel_rfl)
       refine R_index 4 (x_v11) rfl rfl (rfl) rfl (by decide) b7 (by rfl) (by rfl) (by rfl) bo (by rfl) cb cc (by kernel_rfl) fun cg (bq : Kn 49 [(b_q0, 0), (b_q1, 0), (b_q2, 0), (a8, bi + (x_v11 : Int).toNat * 1)] [(tP 44 3 0), (tI 43 x_v11), (tS 42 p q2.legs.length q), (tI 40 x_v10), (tI 5 x_v11), (0, .one (.c (.func (.yield l) #[] #[]))), (tP 1 0 0), (tP 2 1 0), (tP 3 2 0)] cg) => ?_
       refine Rk 5 3 [(tI 6 (IntKind.i64.wrap (x_v10 + x44))), (tI 5 x_v11), (0, .one (.c (.func (.yield l) #[] #[]))), (tP 1 0 0), (tP 2 1 0), (tP 3 2 0)] bq a0 fun cq br => ?_
       refine wf (wp_region_from (Rk 0 3 [(tI 5 (IntKind.i64.wrap (x_v11 + 1))), (tI 6 (IntKind.i64.wrap (x_v10 + x44))), (0, .one (.c (.func (.yield l) #[] #[]))), (tP 1 0 0), (tP 2 1 0), (tP 3 2 0)] br a0 fun cr bs => ?_))
       refine wf ?_
       exact Exists.intro aj ⟨Nat.lt_succ_self _, Exists.intro (IntKind.i64.wrap (x_v10 + x44)) ⟨(IntKind.i64.wrap (x_v11 + 1)), af.2, ag, ad, _, _, rfl, ((bs.keep [6, 5, 0, 1, 2, 3] (by rfl)).cut 3 (by kernel_rfl)), (a0.cutPl 3 (by kernel_rfl)), (Heap.le_trans u v), am, a⟩⟩
      ·
       rw [aw, cond_false] at a
       refine wp_ret ?_
       obtain rfl := Option.some.inj a
       obtain rfl := Option.some.inj H
       exact it_ret (J := fun w' => ∃ h', Heap.le h h' ∧ J af.2 h' w') rfl ⟨ah, (Heap.le_trans u v), x.J hJ am⟩
    ·
     rw [au, cond_false] at a
     refine wp_exit ?_
     obtain rfl := Option.some.inj a
     exact Exists.intro af.2 ⟨ag, ad, _, _, rfl, ay.kp, x, (Heap.le_trans u v), am, rfl⟩
 ·
  rintro _ c5 ⟨ap, a7, ax, a3, an, rfl, cp, ca, b8, bk, rfl⟩
  rw [Ex.bind_go] at H
  obtain rfl := Option.some.inj H
  exact it_end (J := fun w' => ∃ h', Heap.le h h' ∧ J ap h' w') rfl ⟨an, b8, ca.J hJ bk⟩
end Go.Proofs.Ytokchpjijlebiaa
