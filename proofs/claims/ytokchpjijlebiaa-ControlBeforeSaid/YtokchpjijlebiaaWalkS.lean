/- Each call computes its plain function: printed by dec.py. -/
import Derived.Test.YtokchpjijlebiaaProg
import Derived.Test.YtokchpjijlebiaaPure
import Derived.Test.YtokchpjijlebiaaWalkP
set_option linter.all false
namespace Go.Proofs.Ytokchpjijlebiaa
open Go Go.RowKit
open Rep (rep)
open KRep (kv)
open VRep (rv)
abbrev K106c1 (v : Option Addr) (q2 : Times) (x : Nat) : List SC := [.slice v q2.legs.length x, .int .i64 q2.turn]
abbrev K106c2 (q0 : Trip) : List SC := [.int .i64 q0.stop, .int .i64 q0.tm, .int .i64 q0.turned]
abbrev K106c3 (d : Option Addr) (q1 : Route) (i : Nat) (f : Option Addr) (k : Nat) (g : Option Addr) (m : Nat) : List SC := [.slice d q1.legs.length i, .int .i64 q1.turn.lo, .int .i64 q1.turn.hi, .slice f q1.buses.length k, .slice g q1.spares.length m, .int .i64 q1.unit, .int .i64 q1.gap, .int .i64 q1.fr, .int .i64 q1.to_]
set_option maxRecDepth 100000 in
set_option maxHeartbeats 4000000 in
theorem control_Route_passes_1_it (n : Nat) {h : Heap} {w : World} {σ : Type} {J : σ → Heap → World → Prop} (hJ : JOk J) {l : Nat} (yield_ : σ → Int → Int → Option (σ × Bool)) (hy : ∀ (s : σ) (x0 : Int) (x1 : Int) (s' : σ) (b : Bool) (h : Heap) (w : World), J s h w → yield_ s x0 x1 = some (s', b) → Yields Try.prog l #[.int .i64 x0, .int .i64 x1] w (fun c w' => c = b ∧ ∃ h', Heap.le h h' ∧ J s' h' w')) (s : σ) (hw : J s h w) (q0 : Trip) {b_q0 : Nat} (hb_q0 : BoxS h b_q0 q0) (q1 : Route) {b_q1 : Nat} (hb_q1 : BoxS h b_q1 q1) (q2 : Times) {b_q2 : Nat} (hb_q2 : BoxS h b_q2 q2) {r : σ} (H : control_Route_passes_1 n yield_ s q0 q1 q2 = some r) :
  Calls Try.prog 106 #[.func (.yield l) #[] #[], .pointer (some ⟨b_q0, 0, none⟩), .pointer (some ⟨b_q1, 0, none⟩), .pointer (some ⟨b_q2, 0, none⟩)] w (fun en w' => en = .returned (.tuple #[]) ∧ ∃ h', Heap.le h h' ∧ J r h' w') := by
 obtain ⟨_, hx_q0, hc_q0⟩ := id hb_q0
 obtain ⟨_, _, rfl, rfl, ⟨_, _, rfl, rfl, rfl⟩⟩ := hx_q0
 obtain ⟨_, hx_q1, hc_q1⟩ := id hb_q1
 obtain ⟨_, _, rfl, ⟨d, i, rfl, p⟩, ⟨_, _, rfl, ⟨_, _, rfl, rfl, rfl⟩, ⟨_, _, rfl, ⟨f, k, rfl, q⟩, ⟨_, _, rfl, ⟨g, m, rfl, u⟩, ⟨_, _, rfl, rfl, ⟨_, _, rfl, rfl, ⟨_, _, rfl, rfl, rfl⟩⟩⟩⟩⟩⟩⟩ := hx_q1
 obtain ⟨_, hx_q2, hc_q2⟩ := id hb_q2
 obtain ⟨_, _, rfl, ⟨v, x, rfl, y⟩, rfl⟩ := hx_q2
 have hh := hJ.has _ _ _ hw
 refine enter' (e := [(b_q0, 0), (b_q1, 0), (b_q2, 0)]) 49 [.c (.func (.yield l) #[] #[]), .c (.ptr 0 0), .c (.ptr 1 0), .c (.ptr 2 0)] Try.func106 rfl rfl rfl rfl fun t hk => ?_
 have hm := Mem.begin h w hh
 replace hm := hm.addPlc (o := 0) (cs := [.int .i64 q0.stop, .int .i64 q0.tm, .int .i64 q0.turned]) (fun j c hj => by rw [Nat.zero_add]; exact hc_q0 j _ (map_get hj)) rfl (by kernel_rfl) (by kernel_rfl)
 replace hm := hm.addPlc (o := 0) (cs := [.slice d q1.legs.length i, .int .i64 q1.turn.lo, .int .i64 q1.turn.hi, .slice f q1.buses.length k, .slice g q1.spares.length m, .int .i64 q1.unit, .int .i64 q1.gap, .int .i64 q1.fr, .int .i64 q1.to_]) (fun j c hj => by rw [Nat.zero_add]; exact hc_q1 j _ (map_get hj)) rfl (by kernel_rfl) (by kernel_rfl)
 replace hm := hm.addPlc (o := 0) (cs := [.slice v q2.legs.length x, .int .i64 q2.turn]) (fun j c hj => by rw [Nat.zero_add]; exact hc_q2 j _ (map_get hj)) rfl (by kernel_rfl) (by kernel_rfl)
 replace hm : Mem ⟨w, h, noX⟩ h [(b_q0, 0), (b_q1, 0), (b_q2, 0)] [⟨(K106c2 q0), none⟩, ⟨(K106c3 d q1 i f k g m), none⟩, ⟨(K106c1 v q2 x), none⟩] [] w := hm
 unfold control_Route_passes_1 at H
 refine wp_seq (wp_region_G (by kernel_rfl) ?_)
 replace hm := hm.drew
 refine wpG_of_D [] [(b_q0, 0), (b_q1, 0), (b_q2, 0)] [⟨(K106c2 q0), none⟩, ⟨(K106c3 d q1 i f k g m), none⟩, ⟨(K106c1 v q2 x), none⟩] ?_
 refine D_run [0, 1, 2, 3, 4, 5] [5, 4, 3, 2, 1, 0] [6, 5, 0, 1, 2, 3] [(tI 6 q0.tm), (tI 5 q0.stop), (0, .one (.c (.func (.yield l) #[] #[]))), (tP 1 0 0), (tP 2 1 0), (tP 3 2 0)] (fun _ _ _ _ _ h => h) hk hm.plOk (by kernel_rfl) (by rfl) (by kernel_rfl) fun ct bv => ?_
 refine wpD_end (by kernel_rfl) ?_
 obtain ⟨bj, bc, H⟩ := bnd H
 refine wp_mid' (fun a' w' => ∃ (au : σ) (ba : World) (a0 : Heap) (a6 : Array Value) (aq : Heap), a' = ⟨a6, []⟩ ∧ Kn 49 [(b_q0, 0), (b_q1, 0), (b_q2, 0)] [] a6 ∧ Mem ⟨ba, a0, noX⟩ aq [(b_q0, 0), (b_q1, 0), (b_q2, 0)] [⟨(K106c2 q0), none⟩, ⟨(K106c3 d q1 i f k g m), none⟩, ⟨(K106c1 v q2 x), none⟩] [] w' ∧ Heap.le h aq ∧ J au a0 ba ∧ bj = .go au) ?_ ?_
 ·
  refine wp_block ?_
  refine wp_loop_n (fun cf a' w' => ∃ (x_v10 : Int) (x_v11 : Int) (x_v12 : σ) (av : World) (ar : Heap) (a7 : Array Value) (an : Heap), a' = ⟨a7, []⟩ ∧ Kn 49 [(b_q0, 0), (b_q1, 0), (b_q2, 0)] [(tI 6 x_v10), (tI 5 x_v11), (0, .one (.c (.func (.yield l) #[] #[]))), (tP 1 0 0), (tP 2 1 0), (tP 3 2 0)] a7 ∧ Mem ⟨av, ar, noX⟩ an [(b_q0, 0), (b_q1, 0), (b_q2, 0)] [⟨(K106c2 q0), none⟩, ⟨(K106c3 d q1 i f k g m), none⟩, ⟨(K106c1 v q2 x), none⟩] [] w' ∧ Heap.le h an ∧ J x_v12 ar av ∧ control_Route_passes_1_l1 cf yield_ q0 q1 q2 x_v10 x_v11 x_v12 = some bj) n ?_ ?_
  ·
   exact Exists.intro q0.tm ⟨q0.stop, s, w, h, _, _, rfl, (bv.keep [6, 5, 0, 1, 2, 3] (by rfl)), hm, (Heap.le_refl _), hw, bc⟩
  ·
   rintro am _ c6 ⟨x_v10, x_v11, x_v12, av, ar, a7, an, rfl, bw, a4, z, bd, a⟩
   clear bc
   obtain _ | am := am
   ·
    rw [control_Route_passes_1_l1] at a; cases a
   rw [control_Route_passes_1_l1] at a
   replace hb_q0 := hb_q0.mono z
   replace p := p.mono z
   replace q := q.mono z
   replace u := u.mono z
   replace hb_q1 := hb_q1.mono z
   replace y := y.mono z
   replace hb_q2 := hb_q2.mono z
   refine wp_seq (wp_seq ?_)
   obtain ⟨ai, ae, a⟩ := bnd a
   refine wp_mid' (fun a' w' => ∃ (aj : World) (ah : Heap) (a8 : Array Value) (ak : Heap), a' = ⟨a8, []⟩ ∧ Kn 49 [(b_q0, 0), (b_q1, 0), (b_q2, 0)] [(tI 6 x_v10), (tI 5 x_v11), (0, .one (.c (.func (.yield l) #[] #[]))), (tP 1 0 0), (tP 2 1 0), (tP 3 2 0), (tB 19 ai.1)] a8 ∧ Mem ⟨aj, ah, noX⟩ ak [(b_q0, 0), (b_q1, 0), (b_q2, 0)] [⟨(K106c2 q0), none⟩, ⟨(K106c3 d q1 i f k g m), none⟩, ⟨(K106c1 v q2 x), none⟩] [] w' ∧ Heap.le an ak ∧ J ai.2 ah aj) ?_ ?_
   ·
    refine wp_region_fromI ?_
    refine RI_runk 0 2 [12, 11, 6, 5, 0, 1, 2, 3] [(tI 12 x_v11), (tA 11 (K106c3 d q1 i f k g m)), (tI 6 x_v10), (tI 5 x_v11), (0, .one (.c (.func (.yield l) #[] #[]))), (tP 1 0 0), (tP 2 1 0), (tP 3 2 0)] bw a4.plOk (by kernel_rfl) fun cu bx => ?_
    obtain ⟨x13, ex13, ae⟩ := bnd ae
    refine wpFromI_loud _ rfl (rfl) fun K hK => ?_
    refine wp_call [.agg (K106c3 d q1 i f k g m), .c (.int .i64 x_v11)] _ bx a4 rfl rfl (by decide) (by rfl) rfl (fun _ _ => by kernel_rfl) (control_Route_stop_ok am a4.has q1 ((rep_pair (rep_slice p) (rep_pair (rep_pair rep_int rep_int) (rep_pair (rep_slice q) (rep_pair (rep_slice u) (rep_pair rep_int (rep_pair rep_int (rep_pair rep_int rep_int))))))) : rep an q1 _) x_v11 ex13) fun c3 cn c7 bn ac al => ?_
    replace hb_q0 := hb_q0.mono ac
    replace p := p.mono ac
    replace q := q.mono ac
    replace u := u.mono ac
    replace hb_q1 := hb_q1.mono ac
    replace y := y.mono ac
    replace hb_q2 := hb_q2.mono ac
    obtain rfl := bn
    refine ⟨.one (.c (.bool x13)), rfl, fun ch (bz : Kn 49 [(b_q0, 0), (b_q1, 0), (b_q2, 0)] [(tB 13 x13), (tI 12 x_v11), (tA 11 (K106c3 d q1 i f k g m)), (tI 6 x_v10), (tI 5 x_v11), (0, .one (.c (.func (.yield l) #[] #[]))), (tP 1 0 0), (tP 2 1 0), (tP 3 2 0)] ch) => hK _ _ ?_⟩
    refine RI_runk 3 1 [14, 6, 5, 0, 1, 2, 3] [(tB 14 x13), (tI 6 x_v10), (tI 5 x_v11), (0, .one (.c (.func (.yield l) #[] #[]))), (tP 1 0 0), (tP 2 1 0), (tP 3 2 0)] bz al.plOk (by kernel_rfl) fun bl bf => ?_
    rcases Bool.eq_false_or_eq_true (x13) with ao | ao
    ·
     rw [ao, cond_true] at ae
     have b0 : Kn 49 [(b_q0, 0), (b_q1, 0), (b_q2, 0)] [(tB 14 true), (tI 6 x_v10), (tI 5 x_v11), (0, .one (.c (.func (.yield l) #[] #[]))), (tP 1 0 0), (tP 2 1 0), (tP 3 2 0)] bl := (bf.setB 14 true (by rfl) ao).keep [14, 6, 5, 0, 1, 2, 3] (by rfl)
     refine RI_runk 4 3 [17, 16, 15, 14, 6, 5, 0, 1, 2, 3] [(tI 17 x_v10), (tI 16 x_v11), (15, .one (.c (.func (.yield l) #[] #[]))), (tB 14 true), (tI 6 x_v10), (tI 5 x_v11), (0, .one (.c (.func (.yield l) #[] #[]))), (tP 1 0 0), (tP 2 1 0), (tP 3 2 0)] b0 al.plOk (by kernel_rfl) fun cv bg => ?_
     obtain ⟨x18, ex18, ae⟩ := bnd ae
     refine RI_yield 7 [.c (.int .i64 x_v11), .c (.int .i64 x_v10)] _ bg rfl rfl (wantedS_sound bg (by kernel_rfl)) rfl (by decide) (by rfl) (by rfl) rfl (hy _ x_v11 x_v10 _ _ _ _ (al.J hJ bd) ex18) fun cl a9 bo ci b1 => ?_
     obtain ⟨rfl, aw, ad, be⟩ := bo
     replace hb_q0 := hb_q0.mono ad
     replace p := p.mono ad
     replace q := q.mono ad
     replace u := u.mono ad
     replace hb_q1 := hb_q1.mono ad
     replace y := y.mono ad
     replace hb_q2 := hb_q2.mono ad
     have b2 : Kn 49 [(b_q0, 0), (b_q1, 0), (b_q2, 0)] [(tB 18 x18.2), (tI 17 x_v10), (tI 16 x_v11), (15, .one (.c (.func (.yield l) #[] #[]))), (tB 14 true), (tI 6 x_v10), (tI 5 x_v11), (0, .one (.c (.func (.yield l) #[] #[]))), (tP 1 0 0), (tP 2 1 0), (tP 3 2 0)] ci := b1.keep [18, 17, 16, 15, 14, 6, 5, 0, 1, 2, 3] (by rfl)
     have bi : Mem ⟨a9, aw, noX⟩ aw [(b_q0, 0), (b_q1, 0), (b_q2, 0)] [⟨(K106c2 q0), none⟩, ⟨(K106c3 d q1 i f k g m), none⟩, ⟨(K106c1 v q2 x), none⟩] [] a9 := al.rebase ad (hJ.has _ _ _ be) (by kernel_rfl)
     refine RI_runk 8 1 [19, 6, 5, 0, 1, 2, 3] [(tB 19 x18.2), (tI 6 x_v10), (tI 5 x_v11), (0, .one (.c (.func (.yield l) #[] #[]))), (tP 1 0 0), (tP 2 1 0), (tP 3 2 0)] b2 bi.plOk (by kernel_rfl) fun cw b3 => ?_
     refine wpFromI_end (by decide) ?_
     obtain rfl := Option.some.inj ae
     exact Exists.intro a9 ⟨aw, _, _, rfl, (b3.keep [6, 5, 0, 1, 2, 3, 19] (by rfl)), bi, (Heap.le_trans ac ad), be⟩
    ·
     rw [ao, cond_false] at ae
     have b4 : Kn 49 [(b_q0, 0), (b_q1, 0), (b_q2, 0)] [(tB 14 false), (tI 6 x_v10), (tI 5 x_v11), (0, .one (.c (.func (.yield l) #[] #[]))), (tP 1 0 0), (tP 2 1 0), (tP 3 2 0)] bl := (bf.setB 14 false (by rfl) ao).keep [14, 6, 5, 0, 1, 2, 3] (by rfl)
     refine RI_runk 4 5 [19, 6, 5, 0, 1, 2, 3] [(tB 19 false), (tI 6 x_v10), (tI 5 x_v11), (0, .one (.c (.func (.yield l) #[] #[]))), (tP 1 0 0), (tP 2 1 0), (tP 3 2 0)] b4 al.plOk (by kernel_rfl) fun cx b5 => ?_
     refine wpFromI_end (by decide) ?_
     obtain rfl := Option.some.inj ae
     exact Exists.intro av ⟨ar, _, _, rfl, (b5.keep [6, 5, 0, 1, 2, 3, 19] (by rfl)), al, ac, bd⟩
   ·
    rintro _ ck ⟨aj, ah, a8, ak, rfl, a1, ab, aa, ap⟩
    replace hb_q0 := hb_q0.mono aa
    replace p := p.mono aa
    replace q := q.mono aa
    replace u := u.mono aa
    replace hb_q1 := hb_q1.mono aa
    replace y := y.mono aa
    replace hb_q2 := hb_q2.mono aa
    refine wp_cond_sv (ai.1) a1 (by kernel_rfl) (fun ax => ?_) (fun ax => ?_)
    ·
     rw [ax, cond_true] at a
     refine wp_skip (wp_block (wp_block (wp_seq (wp_region_from (R_runk 0 5 [20, 6, 5, 0, 1, 2, 3] [(tB 20 (x_v11 == q0.turned)), (tI 6 x_v10), (tI 5 x_v11), (0, .one (.c (.func (.yield l) #[] #[]))), (tP 1 0 0), (tP 2 1 0), (tP 3 2 0)] a1 ab.plOk (by kernel_rfl) fun cy a2 => ?_)))))
     refine wpFrom_end (by decide) (wp_cond_sv ((x_v11 == q0.turned)) a2 (by kernel_rfl) (fun ay => ?_) (fun ay => ?_))
     ·
      rw [ay, cond_true] at a
      refine wp_region_G (by kernel_rfl) ?_
      replace ab := ab.drew
      refine wpG_of_D [] [(b_q0, 0), (b_q1, 0), (b_q2, 0)] [⟨(K106c2 q0), none⟩, ⟨(K106c3 d q1 i f k g m), none⟩, ⟨(K106c1 v q2 x), none⟩] ?_
      refine D_run [0, 3, 5, 6, 7, 8] [8, 7, 6, 5, 3, 0] [33, 28, 25, 0, 1, 2, 3] [(tI 33 (IntKind.i64.wrap (x_v10 + q2.turn))), (tI 28 x_v11), (tA 25 (K106c3 d q1 i f k g m)), (0, .one (.c (.func (.yield l) #[] #[]))), (tP 1 0 0), (tP 2 1 0), (tP 3 2 0)] (fun _ _ _ _ _ h => h) a2 ab.plOk (by kernel_rfl) (by rfl) (by kernel_rfl) fun cz b6 => ?_
      obtain ⟨x26, ex26, a⟩ := bnd a
      refine D_loud 1 rfl (by kernel_rfl) (by decide) (rfl) fun K hK => ?_
      refine wp_call [.agg (K106c3 d q1 i f k g m)] _ b6 ab rfl rfl (by decide) (by rfl) rfl (fun _ _ => by kernel_rfl) (control_Route_stops_ok am ab.has q1 ((rep_pair (rep_slice p) (rep_pair (rep_pair rep_int rep_int) (rep_pair (rep_slice q) (rep_pair (rep_slice u) (rep_pair rep_int (rep_pair rep_int (rep_pair rep_int rep_int))))))) : rep ak q1 _) ex26) fun c4 co c8 bp ag a5 => ?_
      replace hb_q0 := hb_q0.mono ag
      replace p := p.mono ag
      replace q := q.mono ag
      replace u := u.mono ag
      replace hb_q1 := hb_q1.mono ag
      replace y := y.mono ag
      replace hb_q2 := hb_q2.mono ag
      obtain rfl := bp
      refine ⟨.one (.c (.int .i64 x26)), rfl, fun cj (b7 : Kn 49 [(b_q0, 0), (b_q1, 0), (b_q2, 0)] [(tI 26 x26), (tI 33 (IntKind.i64.wrap (x_v10 + q2.turn))), (tI 28 x_v11), (tA 25 (K106c3 d q1 i f k g m)), (0, .one (.c (.func (.yield l) #[] #[]))), (tP 1 0 0), (tP 2 1 0), (tP 3 2 0)] cj) => hK _ _ a5.plOk ?_⟩
      refine D_run [2, 4, 9, 10] [10, 9, 4, 2, 1, 8, 7, 6, 5, 3, 0] [6, 5, 0, 1, 2, 3] [(tI 6 (IntKind.i64.wrap (x_v10 + q2.turn))), (tI 5 (IntKind.i64.wrap ((IntKind.i64.wrap (x26 - 1)) - x_v11))), (0, .one (.c (.func (.yield l) #[] #[]))), (tP 1 0 0), (tP 2 1 0), (tP 3 2 0)] (fun _ _ _ _ _ h => h) b7 a5.plOk (by kernel_rfl) (by rfl) (by kernel_rfl) fun c0 b8 => ?_
      refine wpD_end (by kernel_rfl) ?_
      exact Exists.intro am ⟨Nat.lt_succ_self _, Exists.intro (IntKind.i64.wrap (x_v10 + q2.turn)) ⟨(IntKind.i64.wrap ((IntKind.i64.wrap (x26 - 1)) - x_v11)), ai.2, aj, ah, _, _, rfl, (b8.keep [6, 5, 0, 1, 2, 3] (by rfl)), a5, (Heap.le_trans z (Heap.le_trans aa ag)), ap, a⟩⟩
     ·
      rw [ay, cond_false] at a
      refine wp_seq (wp_region_from (R_runk 0 6 [34, 6, 5, 0, 1, 2, 3] [(tB 34 (decide (x_v11 < ((q2.legs.length : Nat) : Int)))), (tI 6 x_v10), (tI 5 x_v11), (0, .one (.c (.func (.yield l) #[] #[]))), (tP 1 0 0), (tP 2 1 0), (tP 3 2 0)] a2 ab.plOk (by kernel_rfl) fun c1 bh => ?_))
      refine wpFrom_end (by decide) (wp_cond_sv (decide (x_v11 < ((q2.legs.length : Nat) : Int))) bh (by kernel_rfl) (fun az => ?_) (fun az => ?_))
      ·
       rw [az, cond_true] at a
       refine wp_seq (wp_region_from (R_runk 0 4 [43, 42, 40, 5, 0, 1, 2, 3] [(tI 43 x_v11), (tS 42 v q2.legs.length x), (tI 40 x_v10), (tI 5 x_v11), (0, .one (.c (.func (.yield l) #[] #[]))), (tP 1 0 0), (tP 2 1 0), (tP 3 2 0)] bh ab.plOk (by kernel_rfl) fun c2 b9 => ?_))
       obtain ⟨x44, ex44, a⟩ := bnd a
       obtain ⟨cb, cc, ce⟩ := idx_some ex44
       obtain ⟨bb, bk, cm, bq, cd, br⟩ := y.get (by decide) ce
       obtain rfl := cd
       have a3 : Mem ⟨aj, ah, noX⟩ ak [(b_q0, 0), (b_q1, 0), (b_q2, 0), (bb, bk + (x_v11 : Int).toNat * 1)] [⟨(K106c2 q0), none⟩, ⟨(K106c3 d q1 i f k g m), none⟩, ⟨(K106c1 v q2 x), none⟩, ⟨[.int .i64 x44], none⟩] [] ck := ab.addPlc (cs := [.int .i64 x44]) (fun j c hj => br j _ (map_get hj)) rfl (by kernel_rfl) (by kernel_rfl)
       refine R_index 4 (x_v11) rfl rfl (rfl) rfl (by decide) b9 (by rfl) (by rfl) (by rfl) bq (by rfl) cb cc (by kernel_rfl) fun cg (bs : Kn 49 [(b_q0, 0), (b_q1, 0), (b_q2, 0), (bb, bk + (x_v11 : Int).toNat * 1)] [(tP 44 3 0), (tI 43 x_v11), (tS 42 v q2.legs.length x), (tI 40 x_v10), (tI 5 x_v11), (0, .one (.c (.func (.yield l) #[] #[]))), (tP 1 0 0), (tP 2 1 0), (tP 3 2 0)] cg) => ?_
       refine R_runk 5 3 [6, 5, 0, 1, 2, 3] [(tI 6 (IntKind.i64.wrap (x_v10 + x44))), (tI 5 x_v11), (0, .one (.c (.func (.yield l) #[] #[]))), (tP 1 0 0), (tP 2 1 0), (tP 3 2 0)] bs a3.plOk (by kernel_rfl) fun cq bt => ?_
       refine wpFrom_end (by decide) (wp_region_from (R_runk 0 3 [5, 6, 0, 1, 2, 3] [(tI 5 (IntKind.i64.wrap (x_v11 + 1))), (tI 6 (IntKind.i64.wrap (x_v10 + x44))), (0, .one (.c (.func (.yield l) #[] #[]))), (tP 1 0 0), (tP 2 1 0), (tP 3 2 0)] bt a3.plOk (by kernel_rfl) fun cr bu => ?_))
       refine wpFrom_end (by decide) ?_
       exact Exists.intro am ⟨Nat.lt_succ_self _, Exists.intro (IntKind.i64.wrap (x_v10 + x44)) ⟨(IntKind.i64.wrap (x_v11 + 1)), ai.2, aj, ah, _, _, rfl, ((bu.keep [6, 5, 0, 1, 2, 3] (by rfl)).cut 3 (by kernel_rfl)), (a3.cutPl 3 (by kernel_rfl)), (Heap.le_trans z aa), ap, a⟩⟩
      ·
       rw [az, cond_false] at a
       refine wp_ret ?_
       obtain rfl := Option.some.inj a
       obtain rfl := Option.some.inj H
       exact it_ret (J := fun w' => ∃ h', Heap.le h h' ∧ J ai.2 h' w') rfl ⟨ak, (Heap.le_trans z aa), ab.J hJ ap⟩
    ·
     rw [ax, cond_false] at a
     refine wp_exit ?_
     obtain rfl := Option.some.inj a
     exact Exists.intro ai.2 ⟨aj, ah, _, _, rfl, (a1.keep [] (by rfl)), ab, (Heap.le_trans z aa), ap, rfl⟩
 ·
  rintro _ c5 ⟨au, ba, a0, a6, aq, rfl, cp, ca, af, bm, rfl⟩
  rw [Ex.bind_go] at H
  replace hb_q0 := hb_q0.mono af
  replace p := p.mono af
  replace q := q.mono af
  replace u := u.mono af
  replace hb_q1 := hb_q1.mono af
  replace y := y.mono af
  replace hb_q2 := hb_q2.mono af
  obtain rfl := Option.some.inj H
  exact it_end (J := fun w' => ∃ h', Heap.le h h' ∧ J au h' w') rfl ⟨aq, af, ca.J hJ bm⟩
end Go.Proofs.Ytokchpjijlebiaa
