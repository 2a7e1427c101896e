/- Each call computes its plain function: printed by dec.py. -/
import Derived.Test.YtokchpjijlebiaaProg
import Derived.Test.YtokchpjijlebiaaPure
import Derived.Test.YtokchpjijlebiaaWalkP
set_option linter.all false
namespace Go.Proofs.Ytokchpjijlebiaa
open Go Go.RowKit
open Rep (rep)
open KRep (kv)
open VRep (rv)
abbrev K75c1 (b : Bus) : List SC := [.int .i64 b.stop, .int .i64 b.tm.lo, .int .i64 b.tm.hi]
abbrev K75c2 (a : Option Addr) (q0 : Route) (g : Nat) (d : Option Addr) (i : Nat) (f : Option Addr) (k : Nat) : List SC := [.slice a q0.legs.length g, .int .i64 q0.turn.lo, .int .i64 q0.turn.hi, .slice d q0.buses.length i, .slice f q0.spares.length k, .int .i64 q0.unit, .int .i64 q0.gap, .int .i64 q0.fr, .int .i64 q0.to_]
set_option maxRecDepth 100000 in
set_option maxHeartbeats 4000000 in
theorem control_Route_check_1_ok (n : Nat) {h : Heap} {w : World} (hh : Has h w) (b : Bus) {cs_b : List Value} (hx_b : rep h b cs_b) (q0 : Route) {b_q0 : Nat} (hb_q0 : BoxS h b_q0 q0) {r : Bool} (H : control_Route_check_1 n b q0 = some r) :
  Calls Try.prog 75 #[.agg cs_b.toArray, .pointer (some ⟨b_q0, 0, none⟩)] w (Ret (fun h v => v = .bool r) h w) := by
 obtain ⟨_, _, rfl, rfl, ⟨_, _, rfl, rfl, rfl⟩⟩ := hx_b
 obtain ⟨_, hx_q0, hc_q0⟩ := id hb_q0
 obtain ⟨_, _, rfl, ⟨a, g, rfl, q⟩, ⟨_, _, rfl, ⟨_, _, rfl, rfl, rfl⟩, ⟨_, _, rfl, ⟨d, i, rfl, s⟩, ⟨_, _, rfl, ⟨f, k, rfl, u⟩, ⟨_, _, rfl, rfl, ⟨_, _, rfl, rfl, ⟨_, _, rfl, rfl, rfl⟩⟩⟩⟩⟩⟩⟩ := hx_q0
 refine enter' (e := [(b_q0, 0)]) 13 [.agg (K75c1 b), .c (.ptr 0 0)] Try.func75 rfl rfl rfl rfl fun t hk => ?_
 have hm := Mem.begin h w hh
 replace hm := hm.addPlc (o := 0) (cs := [.slice a q0.legs.length g, .int .i64 q0.turn.lo, .int .i64 q0.turn.hi, .slice d q0.buses.length i, .slice f q0.spares.length k, .int .i64 q0.unit, .int .i64 q0.gap, .int .i64 q0.fr, .int .i64 q0.to_]) (fun j c hj => by rw [Nat.zero_add]; exact hc_q0 j _ (map_get hj)) rfl (by kernel_rfl) (by kernel_rfl)
 replace hm : Mem ⟨w, h, noX⟩ h [(b_q0, 0)] [⟨(K75c2 a q0 g d i f k), none⟩] [] w := hm
 unfold control_Route_check_1 at H
 refine wp_seq (wp_region_from (wpFrom_loud _ rfl (rfl) fun K hK => ?_))
 refine wp_box (.agg (K75c1 b)) hk hm rfl rfl (by decide) (by kernel_rfl) (by kernel_rfl) (by kernel_rfl) fun l aq av (ah : Kn 13 [(b_q0, 0), (l, 0)] [(tP 2 1 0), (tA 0 (K75c1 b)), (tP 1 0 0)] aq) (z : Mem ⟨w, h, noX⟩ h [(b_q0, 0), (l, 0)] [⟨(K75c2 a q0 g d i f k), none⟩, ⟨(K75c1 b), some 96⟩] [] av) => hK _ _ ?_
 refine R_runk 1 1 [2, 1] [(tP 2 1 0), (tP 1 0 0)] ah z.plOk (by kernel_rfl) fun ax ai => ?_
 refine wpFrom_end (by decide) (wp_seq (wp_region_from (R_runk 0 3 [6, 4, 2] [(tI 6 b.stop), (tA 4 (K75c2 a q0 g d i f k)), (tP 2 1 0)] ai z.plOk (by kernel_rfl) fun ay aj => ?_)))
 obtain ⟨x7, ex7, H⟩ := bnd H
 refine wpFrom_loud _ rfl (rfl) fun K hK => ?_
 refine wp_call [.agg (K75c2 a q0 g d i f k), .c (.int .i64 b.stop)] _ aj z rfl rfl (by decide) (by rfl) rfl (fun _ _ => by kernel_rfl) (control_Route_stop_ok n z.has q0 ((rep_pair (rep_slice q) (rep_pair (rep_pair rep_int rep_int) (rep_pair (rep_slice s) (rep_pair (rep_slice u) (rep_pair rep_int (rep_pair rep_int (rep_pair rep_int rep_int))))))) : rep h q0 _) b.stop ex7) fun a2 ag a4 ae x m => ?_
 replace q := q.mono x
 replace s := s.mono x
 replace u := u.mono x
 replace hb_q0 := hb_q0.mono x
 obtain rfl := ae
 refine ⟨.one (.c (.bool x7)), rfl, fun ar (ak : Kn 13 [(b_q0, 0), (l, 0)] [(tB 7 x7), (tI 6 b.stop), (tA 4 (K75c2 a q0 g d i f k)), (tP 2 1 0)] ar) => hK _ _ ?_⟩
 refine R_runk 4 1 [8, 2] [(tB 8 x7), (tP 2 1 0)] ak m.plOk (by kernel_rfl) fun ad aa => ?_
 rcases Bool.eq_false_or_eq_true (x7) with p | p
 ·
  rw [p, cond_true] at H
  have al : Kn 13 [(b_q0, 0), (l, 0)] [(tB 8 true), (tP 2 1 0)] ad := (aa.setB 8 true (by rfl) p).keep [8, 2] (by rfl)
  refine R_runk 5 2 [10, 8] [(tA 10 [.int .i64 b.tm.lo, .int .i64 b.tm.hi]), (tB 8 true)] al m.plOk (by kernel_rfl) fun az ab => ?_
  obtain ⟨x11, ex11, H⟩ := bnd H
  refine wpFrom_loud _ rfl (wantedS_sound ab (by kernel_rfl)) fun K hK => ?_
  refine wp_call [.agg [.int .i64 b.tm.lo, .int .i64 b.tm.hi], .c (.int .i64 2000)] _ ab m rfl rfl (by decide) (by rfl) rfl (fun _ _ => by kernel_rfl) (control_Range_upto_ok n m.has b.tm ((rep_pair rep_int rep_int) : rep ag b.tm _) 2000 ex11) fun a3 aw a5 af y ac => ?_
  replace q := q.mono y
  replace s := s.mono y
  replace u := u.mono y
  replace hb_q0 := hb_q0.mono y
  obtain rfl := af
  refine ⟨.one (.c (.bool x11)), rfl, fun au (am : Kn 13 [(b_q0, 0), (l, 0)] [(tB 11 x11), (tA 10 [.int .i64 b.tm.lo, .int .i64 b.tm.hi]), (tB 8 true)] au) => hK _ _ ?_⟩
  refine R_runk 8 2 [3] [(tB 3 x11)] am ac.plOk (by kernel_rfl) fun a0 an => ?_
  refine wpFrom_end (by decide) (wp_ret ?_)
  obtain rfl := Option.some.inj H
  exact ret_ok (.one (.c (.bool x11))) an ac (by kernel_rfl) rfl
 ·
  rw [p, cond_false] at H
  have ao : Kn 13 [(b_q0, 0), (l, 0)] [(tB 8 false), (tP 2 1 0)] ad := (aa.setB 8 false (by rfl) p).keep [8, 2] (by rfl)
  refine R_runk 5 5 [3] [(tB 3 false)] ao m.plOk (by kernel_rfl) fun a1 ap => ?_
  refine wpFrom_end (by decide) (wp_ret ?_)
  obtain rfl := Option.some.inj H
  exact ret_ok (.one (.c (.bool false))) ap m (by kernel_rfl) rfl

abbrev K77c1 (a : Option Addr) (q0 : Route) (f : Nat) (b : Option Addr) (g : Nat) (d : Option Addr) (i : Nat) : List SC := [.slice a q0.legs.length f, .int .i64 q0.turn.lo, .int .i64 q0.turn.hi, .slice b q0.buses.length g, .slice d q0.spares.length i, .int .i64 q0.unit, .int .i64 q0.gap, .int .i64 q0.fr, .int .i64 q0.to_]
set_option maxRecDepth 100000 in
set_option maxHeartbeats 4000000 in
theorem control_Route_check_2_ok (n : Nat) {h : Heap} {w : World} (hh : Has h w) (s : Spare) {cs_s : List Value} (hx_s : rep h s cs_s) (q0 : Route) {b_q0 : Nat} (hb_q0 : BoxS h b_q0 q0) {r : Bool} (H : control_Route_check_2 n s q0 = some r) :
  Calls Try.prog 77 #[.agg cs_s.toArray, .pointer (some ⟨b_q0, 0, none⟩)] w (Ret (fun h v => v = .bool r) h w) := by
 obtain ⟨_, _, rfl, rfl, rfl⟩ := hx_s
 obtain ⟨_, hx_q0, hc_q0⟩ := id hb_q0
 obtain ⟨_, _, rfl, ⟨a, f, rfl, p⟩, ⟨_, _, rfl, ⟨_, _, rfl, rfl, rfl⟩, ⟨_, _, rfl, ⟨b, g, rfl, q⟩, ⟨_, _, rfl, ⟨d, i, rfl, u⟩, ⟨_, _, rfl, rfl, ⟨_, _, rfl, rfl, ⟨_, _, rfl, rfl, rfl⟩⟩⟩⟩⟩⟩⟩ := hx_q0
 refine enter' (e := [(b_q0, 0)]) 13 [.agg [.int .i64 s.stop, .int .i64 s.tm], .c (.ptr 0 0)] Try.func77 rfl rfl rfl rfl fun t hk => ?_
 have hm := Mem.begin h w hh
 replace hm := hm.addPlc (o := 0) (cs := [.slice a q0.legs.length f, .int .i64 q0.turn.lo, .int .i64 q0.turn.hi, .slice b q0.buses.length g, .slice d q0.spares.length i, .int .i64 q0.unit, .int .i64 q0.gap, .int .i64 q0.fr, .int .i64 q0.to_]) (fun j c hj => by rw [Nat.zero_add]; exact hc_q0 j _ (map_get hj)) rfl (by kernel_rfl) (by kernel_rfl)
 replace hm : Mem ⟨w, h, noX⟩ h [(b_q0, 0)] [⟨(K77c1 a q0 f b g d i), none⟩] [] w := hm
 unfold control_Route_check_2 at H
 refine wp_seq (wp_region_from (wpFrom_loud _ rfl (rfl) fun K hK => ?_))
 refine wp_box (.agg [.int .i64 s.stop, .int .i64 s.tm]) hk hm rfl rfl (by decide) (by kernel_rfl) (by kernel_rfl) (by kernel_rfl) fun k ap au (ag : Kn 13 [(b_q0, 0), (k, 0)] [(tP 2 1 0), (tA 0 [.int .i64 s.stop, .int .i64 s.tm]), (tP 1 0 0)] ap) (z : Mem ⟨w, h, noX⟩ h [(b_q0, 0), (k, 0)] [⟨(K77c1 a q0 f b g d i), none⟩, ⟨[.int .i64 s.stop, .int .i64 s.tm], some 110⟩] [] au) => hK _ _ ?_
 refine R_runk 1 1 [2, 1] [(tP 2 1 0), (tP 1 0 0)] ag z.plOk (by kernel_rfl) fun ax ah => ?_
 refine wpFrom_end (by decide) (wp_seq (wp_region_from (R_runk 0 3 [6, 4, 2] [(tI 6 s.stop), (tA 4 (K77c1 a q0 f b g d i)), (tP 2 1 0)] ah z.plOk (by kernel_rfl) fun ay ai => ?_)))
 obtain ⟨x7, ex7, H⟩ := bnd H
 refine wpFrom_loud _ rfl (rfl) fun K hK => ?_
 refine wp_call [.agg (K77c1 a q0 f b g d i), .c (.int .i64 s.stop)] _ ai z rfl rfl (by decide) (by rfl) rfl (fun _ _ => by kernel_rfl) (control_Route_stop_ok n z.has q0 ((rep_pair (rep_slice p) (rep_pair (rep_pair rep_int rep_int) (rep_pair (rep_slice q) (rep_pair (rep_slice u) (rep_pair rep_int (rep_pair rep_int (rep_pair rep_int rep_int))))))) : rep h q0 _) s.stop ex7) fun a2 av a4 ae x l => ?_
 replace p := p.mono x
 replace q := q.mono x
 replace u := u.mono x
 replace hb_q0 := hb_q0.mono x
 obtain rfl := ae
 refine ⟨.one (.c (.bool x7)), rfl, fun aq (aj : Kn 13 [(b_q0, 0), (k, 0)] [(tB 7 x7), (tI 6 s.stop), (tA 4 (K77c1 a q0 f b g d i)), (tP 2 1 0)] aq) => hK _ _ ?_⟩
 refine R_runk 4 1 [8, 2] [(tB 8 x7), (tP 2 1 0)] aj l.plOk (by kernel_rfl) fun ad aa => ?_
 rcases Bool.eq_false_or_eq_true (x7) with m | m
 ·
  rw [m, cond_true] at H
  have ak : Kn 13 [(b_q0, 0), (k, 0)] [(tB 8 true), (tP 2 1 0)] ad := (aa.setB 8 true (by rfl) m).keep [8, 2] (by rfl)
  refine R_runk 5 2 [10, 8] [(tI 10 s.tm), (tB 8 true)] ak l.plOk (by kernel_rfl) fun az ab => ?_
  obtain ⟨x11, ex11, H⟩ := bnd H
  refine wpFrom_loud _ rfl (wantedS_sound ab (by kernel_rfl)) fun K hK => ?_
  refine wp_call [.c (.int .i64 s.tm)] _ ab l rfl rfl (by decide) (by rfl) rfl (fun _ _ => by kernel_rfl) (control_minute_ok n l.has s.tm ex11) fun a3 aw a5 af y ac => ?_
  replace p := p.mono y
  replace q := q.mono y
  replace u := u.mono y
  replace hb_q0 := hb_q0.mono y
  obtain rfl := af
  refine ⟨.one (.c (.bool x11)), rfl, fun ar (al : Kn 13 [(b_q0, 0), (k, 0)] [(tB 11 x11), (tI 10 s.tm), (tB 8 true)] ar) => hK _ _ ?_⟩
  refine R_runk 8 2 [3] [(tB 3 x11)] al ac.plOk (by kernel_rfl) fun a0 am => ?_
  refine wpFrom_end (by decide) (wp_ret ?_)
  obtain rfl := Option.some.inj H
  exact ret_ok (.one (.c (.bool x11))) am ac (by kernel_rfl) rfl
 ·
  rw [m, cond_false] at H
  have an : Kn 13 [(b_q0, 0), (k, 0)] [(tB 8 false), (tP 2 1 0)] ad := (aa.setB 8 false (by rfl) m).keep [8, 2] (by rfl)
  refine R_runk 5 5 [3] [(tB 3 false)] an l.plOk (by kernel_rfl) fun a1 ao => ?_
  refine wpFrom_end (by decide) (wp_ret ?_)
  obtain rfl := Option.some.inj H
  exact ret_ok (.one (.c (.bool false))) ao l (by kernel_rfl) rfl

abbrev K110m1 (s : List Rg) (a_s : Option Addr) (c_s : Nat) (fn_f : Fn) (fa_f fc_f : Array Value) : TM := [(tI 7 ((s.length : Nat) : Int)), (tS 0 a_s s.length c_s), (1, .one (.c (.func fn_f fa_f fc_f)))]
set_option maxRecDepth 100000 in
set_option maxHeartbeats 4000000 in
theorem slices_IndexFunc_control_Range_control_Range_ok (n : Nat) {h : Heap} {w : World} (hh : Has h w) (s : List Rg) {a_s : Option Addr} {c_s : Nat} (hr_s : RepS h a_s c_s s) (f : Rg → Option Bool) {fn_f : Fn} {fa_f fc_f : Array Value} (hf_f : Fn1 h (.func fn_f fa_f fc_f) f) {r : Int} (H : slices_IndexFunc_control_Range_control_Range n s f = some r) :
  Calls Try.prog 110 #[.slice a_s s.length c_s, .func fn_f fa_f fc_f] w (Ret (fun h v => v = .int .i64 r) h w) := by
 refine enter 19 [.c (.slice a_s s.length c_s), .c (.func fn_f fa_f fc_f)] Try.func110 rfl rfl rfl rfl fun t hk => ?_
 have hm := Mem.begin h w hh
 unfold slices_IndexFunc_control_Range_control_Range at H
 refine wp_seq (wp_region_from (R_runk 0 1 [0, 1] [(tS 0 a_s s.length c_s), (1, .one (.c (.func fn_f fa_f fc_f)))] hk hm.plOk (by kernel_rfl) fun a7 al => ?_))
 refine wpFrom_end (by decide) (wp_seq (wp_seq (wp_region_from (R_runk 0 3 [8, 7, 0, 1] ((tI 8 0) :: (K110m1 s a_s c_s fn_f fa_f fc_f)) al hm.plOk (by kernel_rfl) fun bb ap => ?_))))
 refine wpFrom_end (by decide) ?_
 obtain ⟨ae, ab, H⟩ := bnd H
 refine wp_mid' (fun a' w' => ∃ (af : Unit) (aa : Array Value) (l : Heap), a' = ⟨aa, []⟩ ∧ Kn 19 [] [] aa ∧ Mem ⟨w, h, noX⟩ l [] [] [] w' ∧ Heap.le h l ∧ ae = .go af) ?_ ?_
 ·
  refine wp_block ?_
  refine wp_loop_n (fun a2 a' w' => ∃ (x_v10 : Int) (z : Array Value) (b : Heap), a' = ⟨z, []⟩ ∧ Kn 19 [] ((tI 8 x_v10) :: (K110m1 s a_s c_s fn_f fa_f fc_f)) z ∧ Mem ⟨w, h, noX⟩ b [] [] [] w' ∧ Heap.le h b ∧ slices_IndexFunc_control_Range_control_Range_l1 a2 s f x_v10 = some ae) n ?_ ?_
  ·
   exact Exists.intro 0 ⟨_, _, rfl, (ap.keep [8, 7, 0, 1] (by rfl)), hm, (Heap.le_refl _), ab⟩
  ·
   rintro y _ a4 ⟨x_v10, z, b, rfl, ak, d, g, a⟩
   clear ab
   obtain _ | y := y
   ·
    rw [slices_IndexFunc_control_Range_control_Range_l1] at a; cases a
   rw [slices_IndexFunc_control_Range_control_Range_l1] at a
   replace hr_s := hr_s.mono g
   replace hf_f := hf_f.mono g
   refine wp_seq (wp_region_from (R_runk 0 1 [9, 8, 7, 0, 1] ((tB 9 (decide (x_v10 < ((s.length : Nat) : Int)))) :: (tI 8 x_v10) :: (K110m1 s a_s c_s fn_f fa_f fc_f)) ak d.plOk (by kernel_rfl) fun a8 p => ?_))
   refine wpFrom_end (by decide) (wp_seq (wp_cond_sv (decide (x_v10 < ((s.length : Nat) : Int))) p (by kernel_rfl) (fun m => ?_) (fun m => ?_)))
   ·
    rw [m, cond_true] at a
    refine wp_skip (wp_seq (wp_block (wp_seq (wp_region_from (R_runk 0 2 [5, 8, 7, 0, 1] ((tI 5 x_v10) :: (tI 8 x_v10) :: (K110m1 s a_s c_s fn_f fa_f fc_f)) p d.plOk (by kernel_rfl) fun a9 am => ?_)))))
    refine wpFrom_end (by decide) (wp_seq (wp_region_from (R_runk 0 3 [13, 12, 11, 5, 8, 7, 0, 1] ((tI 13 x_v10) :: (tS 12 a_s s.length c_s) :: (11, .one (.c (.func fn_f fa_f fc_f))) :: (tI 5 x_v10) :: (tI 8 x_v10) :: (K110m1 s a_s c_s fn_f fa_f fc_f)) am d.plOk (by kernel_rfl) fun ba an => ?_)))
    obtain ⟨x14, ex14, a⟩ := bnd a
    obtain ⟨ay, az, a1⟩ := idx_some ex14
    obtain ⟨e, k, a5, ai, a0, aj⟩ := hr_s.get (by decide) a1
    obtain ⟨_, _, rfl, rfl, rfl⟩ := a0
    have x : Mem ⟨w, h, noX⟩ b [(e, k + (x_v10 : Int).toNat * 2)] [⟨[.int .i64 x14.lo, .int .i64 x14.hi], none⟩] [] a4 := d.addPlc (cs := [.int .i64 x14.lo, .int .i64 x14.hi]) (fun j c hj => aj j _ (map_get hj)) rfl (by kernel_rfl) (by kernel_rfl)
    refine R_index 3 (x_v10) rfl rfl (rfl) rfl (by decide) an (by rfl) (by rfl) (by rfl) ai (by rfl) ay az (by kernel_rfl) fun a3 (ao : Kn 19 [(e, k + (x_v10 : Int).toNat * 2)] ((tP 14 0 0) :: (tI 13 x_v10) :: (tS 12 a_s s.length c_s) :: (11, .one (.c (.func fn_f fa_f fc_f))) :: (tI 5 x_v10) :: (tI 8 x_v10) :: (K110m1 s a_s c_s fn_f fa_f fc_f)) a3) => ?_
    refine R_runk 4 1 [15, 11, 5, 8, 7, 0, 1] ((tA 15 [.int .i64 x14.lo, .int .i64 x14.hi]) :: (11, .one (.c (.func fn_f fa_f fc_f))) :: (tI 5 x_v10) :: (tI 8 x_v10) :: (K110m1 s a_s c_s fn_f fa_f fc_f)) ao x.plOk (by kernel_rfl) fun bc aq => ?_
    obtain ⟨x16, ex16, a⟩ := bnd a
    refine wpFrom_loud _ rfl (rfl) fun K hK => ?_
    refine wp_callV (.func fn_f fa_f fc_f) [.agg [.int .i64 x14.lo, .int .i64 x14.hi]] _ aq x rfl rfl (by decide) (by rfl) (by rfl) rfl (hf_f _ _ (Heap.le_refl _) x.has x14 _ ((rep_pair rep_int rep_int) : rep b x14 _) _ ex16) fun bg a6 bh ah u i => ?_
    replace hr_s := hr_s.mono u
    replace hf_f := hf_f.mono u
    obtain rfl := ah
    refine ⟨.one (.c (.bool x16)), rfl, fun ag (ar : Kn 19 [(e, k + (x_v10 : Int).toNat * 2)] ((tB 16 x16) :: (tA 15 [.int .i64 x14.lo, .int .i64 x14.hi]) :: (11, .one (.c (.func fn_f fa_f fc_f))) :: (tI 5 x_v10) :: (tI 8 x_v10) :: (K110m1 s a_s c_s fn_f fa_f fc_f)) ag) => hK _ _ ?_⟩
    have q : Kn 19 [(e, k + (x_v10 : Int).toNat * 2)] ((tB 16 x16) :: (tI 5 x_v10) :: (tI 8 x_v10) :: (K110m1 s a_s c_s fn_f fa_f fc_f)) ag := ar.keep [16, 5, 8, 7, 0, 1] (by rfl)
    refine wpFrom_end (by decide) (wp_cond_sv (x16) q (by kernel_rfl) (fun o => ?_) (fun o => ?_))
    ·
     rw [o, cond_true] at a
     refine wp_seq (wp_region_from (R_runk 0 2 [4] [(tI 4 x_v10)] q i.plOk (by kernel_rfl) fun bd au => ?_))
     refine wpFrom_end (by decide) (wp_ret ?_)
     obtain rfl := Option.some.inj a
     obtain rfl := Option.some.inj H
     exact ret_ok (.one (.c (.int .i64 x_v10))) au i (by kernel_rfl) rfl
    ·
     rw [o, cond_false] at a
     refine wp_skip (wp_region_from (R_runk 0 2 [8, 7, 0, 1] ((tI 8 (IntKind.i64.wrap (x_v10 + 1))) :: (K110m1 s a_s c_s fn_f fa_f fc_f)) q i.plOk (by kernel_rfl) fun be av => ?_))
     refine wpFrom_end (by decide) ?_
     exact Exists.intro y ⟨Nat.lt_succ_self _, Exists.intro (IntKind.i64.wrap (x_v10 + 1)) ⟨_, _, rfl, ((av.keep [8, 7, 0, 1] (by rfl)).cut 0 (by kernel_rfl)), (i.cutPl 0 (by kernel_rfl)), (Heap.le_trans g u), a⟩⟩
   ·
    rw [m, cond_false] at a
    refine wp_exit ?_
    obtain rfl := Option.some.inj a
    exact Exists.intro () ⟨_, _, rfl, (p.keep [] (by rfl)), d, g, rfl⟩
 ·
  rintro _ bi ⟨af, aa, l, rfl, aw, ad, ac, rfl⟩
  rw [Ex.bind_go] at H
  replace hr_s := hr_s.mono ac
  replace hf_f := hf_f.mono ac
  refine wp_seq (wp_region_from (R_runk 0 1 [4] [(tI 4 (-1))] aw ad.plOk (by kernel_rfl) fun bf ax => ?_))
  refine wpFrom_end (by decide) (wp_ret ?_)
  obtain rfl := Option.some.inj H
  exact ret_ok (.one (.c (.int .i64 (-1)))) ax ad (by kernel_rfl) rfl

abbrev K111c1 (x14 : Bus) : List SC := [.int .i64 x14.stop, .int .i64 x14.tm.lo, .int .i64 x14.tm.hi]
abbrev K111m2 (s : List Bus) (a_s : Option Addr) (c_s : Nat) (fn_f : Fn) (fa_f fc_f : Array Value) : TM := [(tI 7 ((s.length : Nat) : Int)), (tS 0 a_s s.length c_s), (1, .one (.c (.func fn_f fa_f fc_f)))]
set_option maxRecDepth 100000 in
set_option maxHeartbeats 4000000 in
theorem slices_IndexFunc_control_Bus_control_Bus_ok (n : Nat) {h : Heap} {w : World} (hh : Has h w) (s : List Bus) {a_s : Option Addr} {c_s : Nat} (hr_s : RepS h a_s c_s s) (f : Bus → Option Bool) {fn_f : Fn} {fa_f fc_f : Array Value} (hf_f : Fn2 h (.func fn_f fa_f fc_f) f) {r : Int} (H : slices_IndexFunc_control_Bus_control_Bus n s f = some r) :
  Calls Try.prog 111 #[.slice a_s s.length c_s, .func fn_f fa_f fc_f] w (Ret (fun h v => v = .int .i64 r) h w) := by
 refine enter 19 [.c (.slice a_s s.length c_s), .c (.func fn_f fa_f fc_f)] Try.func111 rfl rfl rfl rfl fun t hk => ?_
 have hm := Mem.begin h w hh
 unfold slices_IndexFunc_control_Bus_control_Bus at H
 refine wp_seq (wp_region_from (R_runk 0 1 [0, 1] [(tS 0 a_s s.length c_s), (1, .one (.c (.func fn_f fa_f fc_f)))] hk hm.plOk (by kernel_rfl) fun a7 al => ?_))
 refine wpFrom_end (by decide) (wp_seq (wp_seq (wp_region_from (R_runk 0 3 [8, 7, 0, 1] ((tI 8 0) :: (K111m2 s a_s c_s fn_f fa_f fc_f)) al hm.plOk (by kernel_rfl) fun bb ap => ?_))))
 refine wpFrom_end (by decide) ?_
 obtain ⟨ae, ab, H⟩ := bnd H
 refine wp_mid' (fun a' w' => ∃ (af : Unit) (aa : Array Value) (l : Heap), a' = ⟨aa, []⟩ ∧ Kn 19 [] [] aa ∧ Mem ⟨w, h, noX⟩ l [] [] [] w' ∧ Heap.le h l ∧ ae = .go af) ?_ ?_
 ·
  refine wp_block ?_
  refine wp_loop_n (fun a2 a' w' => ∃ (x_v10 : Int) (z : Array Value) (b : Heap), a' = ⟨z, []⟩ ∧ Kn 19 [] ((tI 8 x_v10) :: (K111m2 s a_s c_s fn_f fa_f fc_f)) z ∧ Mem ⟨w, h, noX⟩ b [] [] [] w' ∧ Heap.le h b ∧ slices_IndexFunc_control_Bus_control_Bus_l1 a2 s f x_v10 = some ae) n ?_ ?_
  ·
   exact Exists.intro 0 ⟨_, _, rfl, (ap.keep [8, 7, 0, 1] (by rfl)), hm, (Heap.le_refl _), ab⟩
  ·
   rintro y _ a4 ⟨x_v10, z, b, rfl, ak, d, g, a⟩
   clear ab
   obtain _ | y := y
   ·
    rw [slices_IndexFunc_control_Bus_control_Bus_l1] at a; cases a
   rw [slices_IndexFunc_control_Bus_control_Bus_l1] at a
   replace hr_s := hr_s.mono g
   replace hf_f := hf_f.mono g
   refine wp_seq (wp_region_from (R_runk 0 1 [9, 8, 7, 0, 1] ((tB 9 (decide (x_v10 < ((s.length : Nat) : Int)))) :: (tI 8 x_v10) :: (K111m2 s a_s c_s fn_f fa_f fc_f)) ak d.plOk (by kernel_rfl) fun a8 p => ?_))
   refine wpFrom_end (by decide) (wp_seq (wp_cond_sv (decide (x_v10 < ((s.length : Nat) : Int))) p (by kernel_rfl) (fun m => ?_) (fun m => ?_)))
   ·
    rw [m, cond_true] at a
    refine wp_skip (wp_seq (wp_block (wp_seq (wp_region_from (R_runk 0 2 [5, 8, 7, 0, 1] ((tI 5 x_v10) :: (tI 8 x_v10) :: (K111m2 s a_s c_s fn_f fa_f fc_f)) p d.plOk (by kernel_rfl) fun a9 am => ?_)))))
    refine wpFrom_end (by decide) (wp_seq (wp_region_from (R_runk 0 3 [13, 12, 11, 5, 8, 7, 0, 1] ((tI 13 x_v10) :: (tS 12 a_s s.length c_s) :: (11, .one (.c (.func fn_f fa_f fc_f))) :: (tI 5 x_v10) :: (tI 8 x_v10) :: (K111m2 s a_s c_s fn_f fa_f fc_f)) am d.plOk (by kernel_rfl) fun ba an => ?_)))
    obtain ⟨x14, ex14, a⟩ := bnd a
    obtain ⟨ay, az, a1⟩ := idx_some ex14
    obtain ⟨e, k, a5, ai, a0, aj⟩ := hr_s.get (by decide) a1
    obtain ⟨_, _, rfl, rfl, ⟨_, _, rfl, rfl, rfl⟩⟩ := a0
    have x : Mem ⟨w, h, noX⟩ b [(e, k + (x_v10 : Int).toNat * 3)] [⟨(K111c1 x14), none⟩] [] a4 := d.addPlc (cs := (K111c1 x14)) (fun j c hj => aj j _ (map_get hj)) rfl (by kernel_rfl) (by kernel_rfl)
    refine R_index 3 (x_v10) rfl rfl (rfl) rfl (by decide) an (by rfl) (by rfl) (by rfl) ai (by rfl) ay az (by kernel_rfl) fun a3 (ao : Kn 19 [(e, k + (x_v10 : Int).toNat * 3)] ((tP 14 0 0) :: (tI 13 x_v10) :: (tS 12 a_s s.length c_s) :: (11, .one (.c (.func fn_f fa_f fc_f))) :: (tI 5 x_v10) :: (tI 8 x_v10) :: (K111m2 s a_s c_s fn_f fa_f fc_f)) a3) => ?_
    refine R_runk 4 1 [15, 11, 5, 8, 7, 0, 1] ((tA 15 (K111c1 x14)) :: (11, .one (.c (.func fn_f fa_f fc_f))) :: (tI 5 x_v10) :: (tI 8 x_v10) :: (K111m2 s a_s c_s fn_f fa_f fc_f)) ao x.plOk (by kernel_rfl) fun bc aq => ?_
    obtain ⟨x16, ex16, a⟩ := bnd a
    refine wpFrom_loud _ rfl (rfl) fun K hK => ?_
    refine wp_callV (.func fn_f fa_f fc_f) [.agg (K111c1 x14)] _ aq x rfl rfl (by decide) (by rfl) (by rfl) rfl (hf_f _ _ (Heap.le_refl _) x.has x14 _ ((rep_pair rep_int (rep_pair rep_int rep_int)) : rep b x14 _) _ ex16) fun bg a6 bh ah u i => ?_
    replace hr_s := hr_s.mono u
    replace hf_f := hf_f.mono u
    obtain rfl := ah
    refine ⟨.one (.c (.bool x16)), rfl, fun ag (ar : Kn 19 [(e, k + (x_v10 : Int).toNat * 3)] ((tB 16 x16) :: (tA 15 (K111c1 x14)) :: (11, .one (.c (.func fn_f fa_f fc_f))) :: (tI 5 x_v10) :: (tI 8 x_v10) :: (K111m2 s a_s c_s fn_f fa_f fc_f)) ag) => hK _ _ ?_⟩
    have q : Kn 19 [(e, k + (x_v10 : Int).toNat * 3)] ((tB 16 x16) :: (tI 5 x_v10) :: (tI 8 x_v10) :: (K111m2 s a_s c_s fn_f fa_f fc_f)) ag := ar.keep [16, 5, 8, 7, 0, 1] (by rfl)
    refine wpFrom_end (by decide) (wp_cond_sv (x16) q (by kernel_rfl) (fun o => ?_) (fun o => ?_))
    ·
     rw [o, cond_true] at a
     refine wp_seq (wp_region_from (R_runk 0 2 [4] [(tI 4 x_v10)] q i.plOk (by kernel_rfl) fun bd au => ?_))
     refine wpFrom_end (by decide) (wp_ret ?_)
     obtain rfl := Option.some.inj a
     obtain rfl := Option.some.inj H
     exact ret_ok (.one (.c (.int .i64 x_v10))) au i (by kernel_rfl) rfl
    ·
     rw [o, cond_false] at a
     refine wp_skip (wp_region_from (R_runk 0 2 [8, 7, 0, 1] ((tI 8 (IntKind.i64.wrap (x_v10 + 1))) :: (K111m2 s a_s c_s fn_f fa_f fc_f)) q i.plOk (by kernel_rfl) fun be av => ?_))
     refine wpFrom_end (by decide) ?_
     exact Exists.intro y ⟨Nat.lt_succ_self _, Exists.intro (IntKind.i64.wrap (x_v10 + 1)) ⟨_, _, rfl, ((av.keep [8, 7, 0, 1] (by rfl)).cut 0 (by kernel_rfl)), (i.cutPl 0 (by kernel_rfl)), (Heap.le_trans g u), a⟩⟩
   ·
    rw [m, cond_false] at a
    refine wp_exit ?_
    obtain rfl := Option.some.inj a
    exact Exists.intro () ⟨_, _, rfl, (p.keep [] (by rfl)), d, g, rfl⟩
 ·
  rintro _ bi ⟨af, aa, l, rfl, aw, ad, ac, rfl⟩
  rw [Ex.bind_go] at H
  replace hr_s := hr_s.mono ac
  replace hf_f := hf_f.mono ac
  refine wp_seq (wp_region_from (R_runk 0 1 [4] [(tI 4 (-1))] aw ad.plOk (by kernel_rfl) fun bf ax => ?_))
  refine wpFrom_end (by decide) (wp_ret ?_)
  obtain rfl := Option.some.inj H
  exact ret_ok (.one (.c (.int .i64 (-1)))) ax ad (by kernel_rfl) rfl

abbrev K112m1 (s : List Spare) (a_s : Option Addr) (c_s : Nat) (fn_f : Fn) (fa_f fc_f : Array Value) : TM := [(tI 7 ((s.length : Nat) : Int)), (tS 0 a_s s.length c_s), (1, .one (.c (.func fn_f fa_f fc_f)))]
set_option maxRecDepth 100000 in
set_option maxHeartbeats 4000000 in
theorem slices_IndexFunc_control_Spare_control_Spare_ok (n : Nat) {h : Heap} {w : World} (hh : Has h w) (s : List Spare) {a_s : Option Addr} {c_s : Nat} (hr_s : RepS h a_s c_s s) (f : Spare → Option Bool) {fn_f : Fn} {fa_f fc_f : Array Value} (hf_f : Fn3 h (.func fn_f fa_f fc_f) f) {r : Int} (H : slices_IndexFunc_control_Spare_control_Spare n s f = some r) :
  Calls Try.prog 112 #[.slice a_s s.length c_s, .func fn_f fa_f fc_f] w (Ret (fun h v => v = .int .i64 r) h w) := by
 refine enter 19 [.c (.slice a_s s.length c_s), .c (.func fn_f fa_f fc_f)] Try.func112 rfl rfl rfl rfl fun t hk => ?_
 have hm := Mem.begin h w hh
 unfold slices_IndexFunc_control_Spare_control_Spare at H
 refine wp_seq (wp_region_from (R_runk 0 1 [0, 1] [(tS 0 a_s s.length c_s), (1, .one (.c (.func fn_f fa_f fc_f)))] hk hm.plOk (by kernel_rfl) fun a7 al => ?_))
 refine wpFrom_end (by decide) (wp_seq (wp_seq (wp_region_from (R_runk 0 3 [8, 7, 0, 1] ((tI 8 0) :: (K112m1 s a_s c_s fn_f fa_f fc_f)) al hm.plOk (by kernel_rfl) fun bb ap => ?_))))
 refine wpFrom_end (by decide) ?_
 obtain ⟨ae, ab, H⟩ := bnd H
 refine wp_mid' (fun a' w' => ∃ (af : Unit) (aa : Array Value) (l : Heap), a' = ⟨aa, []⟩ ∧ Kn 19 [] [] aa ∧ Mem ⟨w, h, noX⟩ l [] [] [] w' ∧ Heap.le h l ∧ ae = .go af) ?_ ?_
 ·
  refine wp_block ?_
  refine wp_loop_n (fun a2 a' w' => ∃ (x_v10 : Int) (z : Array Value) (b : Heap), a' = ⟨z, []⟩ ∧ Kn 19 [] ((tI 8 x_v10) :: (K112m1 s a_s c_s fn_f fa_f fc_f)) z ∧ Mem ⟨w, h, noX⟩ b [] [] [] w' ∧ Heap.le h b ∧ slices_IndexFunc_control_Spare_control_Spare_l1 a2 s f x_v10 = some ae) n ?_ ?_
  ·
   exact Exists.intro 0 ⟨_, _, rfl, (ap.keep [8, 7, 0, 1] (by rfl)), hm, (Heap.le_refl _), ab⟩
  ·
   rintro y _ a4 ⟨x_v10, z, b, rfl, ak, d, g, a⟩
   clear ab
   obtain _ | y := y
   ·
    rw [slices_IndexFunc_control_Spare_control_Spare_l1] at a; cases a
   rw [slices_IndexFunc_control_Spare_control_Spare_l1] at a
   replace hr_s := hr_s.mono g
   replace hf_f := hf_f.mono g
   refine wp_seq (wp_region_from (R_runk 0 1 [9, 8, 7, 0, 1] ((tB 9 (decide (x_v10 < ((s.length : Nat) : Int)))) :: (tI 8 x_v10) :: (K112m1 s a_s c_s fn_f fa_f fc_f)) ak d.plOk (by kernel_rfl) fun a8 p => ?_))
   refine wpFrom_end (by decide) (wp_seq (wp_cond_sv (decide (x_v10 < ((s.length : Nat) : Int))) p (by kernel_rfl) (fun m => ?_) (fun m => ?_)))
   ·
    rw [m, cond_true] at a
    refine wp_skip (wp_seq (wp_block (wp_seq (wp_region_from (R_runk 0 2 [5, 8, 7, 0, 1] ((tI 5 x_v10) :: (tI 8 x_v10) :: (K112m1 s a_s c_s fn_f fa_f fc_f)) p d.plOk (by kernel_rfl) fun a9 am => ?_)))))
    refine wpFrom_end (by decide) (wp_seq (wp_region_from (R_runk 0 3 [13, 12, 11, 5, 8, 7, 0, 1] ((tI 13 x_v10) :: (tS 12 a_s s.length c_s) :: (11, .one (.c (.func fn_f fa_f fc_f))) :: (tI 5 x_v10) :: (tI 8 x_v10) :: (K112m1 s a_s c_s fn_f fa_f fc_f)) am d.plOk (by kernel_rfl) fun ba an => ?_)))
    obtain ⟨x14, ex14, a⟩ := bnd a
    obtain ⟨ay, az, a1⟩ := idx_some ex14
    obtain ⟨e, k, a5, ai, a0, aj⟩ := hr_s.get (by decide) a1
    obtain ⟨_, _, rfl, rfl, rfl⟩ := a0
    have x : Mem ⟨w, h, noX⟩ b [(e, k + (x_v10 : Int).toNat * 2)] [⟨[.int .i64 x14.stop, .int .i64 x14.tm], none⟩] [] a4 := d.addPlc (cs := [.int .i64 x14.stop, .int .i64 x14.tm]) (fun j c hj => aj j _ (map_get hj)) rfl (by kernel_rfl) (by kernel_rfl)
    refine R_index 3 (x_v10) rfl rfl (rfl) rfl (by decide) an (by rfl) (by rfl) (by rfl) ai (by rfl) ay az (by kernel_rfl) fun a3 (ao : Kn 19 [(e, k + (x_v10 : Int).toNat * 2)] ((tP 14 0 0) :: (tI 13 x_v10) :: (tS 12 a_s s.length c_s) :: (11, .one (.c (.func fn_f fa_f fc_f))) :: (tI 5 x_v10) :: (tI 8 x_v10) :: (K112m1 s a_s c_s fn_f fa_f fc_f)) a3) => ?_
    refine R_runk 4 1 [15, 11, 5, 8, 7, 0, 1] ((tA 15 [.int .i64 x14.stop, .int .i64 x14.tm]) :: (11, .one (.c (.func fn_f fa_f fc_f))) :: (tI 5 x_v10) :: (tI 8 x_v10) :: (K112m1 s a_s c_s fn_f fa_f fc_f)) ao x.plOk (by kernel_rfl) fun bc aq => ?_
    obtain ⟨x16, ex16, a⟩ := bnd a
    refine wpFrom_loud _ rfl (rfl) fun K hK => ?_
    refine wp_callV (.func fn_f fa_f fc_f) [.agg [.int .i64 x14.stop, .int .i64 x14.tm]] _ aq x rfl rfl (by decide) (by rfl) (by rfl) rfl (hf_f _ _ (Heap.le_refl _) x.has x14 _ ((rep_pair rep_int rep_int) : rep b x14 _) _ ex16) fun bg a6 bh ah u i => ?_
    replace hr_s := hr_s.mono u
    replace hf_f := hf_f.mono u
    obtain rfl := ah
    refine ⟨.one (.c (.bool x16)), rfl, fun ag (ar : Kn 19 [(e, k + (x_v10 : Int).toNat * 2)] ((tB 16 x16) :: (tA 15 [.int .i64 x14.stop, .int .i64 x14.tm]) :: (11, .one (.c (.func fn_f fa_f fc_f))) :: (tI 5 x_v10) :: (tI 8 x_v10) :: (K112m1 s a_s c_s fn_f fa_f fc_f)) ag) => hK _ _ ?_⟩
    have q : Kn 19 [(e, k + (x_v10 : Int).toNat * 2)] ((tB 16 x16) :: (tI 5 x_v10) :: (tI 8 x_v10) :: (K112m1 s a_s c_s fn_f fa_f fc_f)) ag := ar.keep [16, 5, 8, 7, 0, 1] (by rfl)
    refine wpFrom_end (by decide) (wp_cond_sv (x16) q (by kernel_rfl) (fun o => ?_) (fun o => ?_))
    ·
     rw [o, cond_true] at a
     refine wp_seq (wp_region_from (R_runk 0 2 [4] [(tI 4 x_v10)] q i.plOk (by kernel_rfl) fun bd au => ?_))
     refine wpFrom_end (by decide) (wp_ret ?_)
     obtain rfl := Option.some.inj a
     obtain rfl := Option.some.inj H
     exact ret_ok (.one (.c (.int .i64 x_v10))) au i (by kernel_rfl) rfl
    ·
     rw [o, cond_false] at a
     refine wp_skip (wp_region_from (R_runk 0 2 [8, 7, 0, 1] ((tI 8 (IntKind.i64.wrap (x_v10 + 1))) :: (K112m1 s a_s c_s fn_f fa_f fc_f)) q i.plOk (by kernel_rfl) fun be av => ?_))
     refine wpFrom_end (by decide) ?_
     exact Exists.intro y ⟨Nat.lt_succ_self _, Exists.intro (IntKind.i64.wrap (x_v10 + 1)) ⟨_, _, rfl, ((av.keep [8, 7, 0, 1] (by rfl)).cut 0 (by kernel_rfl)), (i.cutPl 0 (by kernel_rfl)), (Heap.le_trans g u), a⟩⟩
   ·
    rw [m, cond_false] at a
    refine wp_exit ?_
    obtain rfl := Option.some.inj a
    exact Exists.intro () ⟨_, _, rfl, (p.keep [] (by rfl)), d, g, rfl⟩
 ·
  rintro _ bi ⟨af, aa, l, rfl, aw, ad, ac, rfl⟩
  rw [Ex.bind_go] at H
  replace hr_s := hr_s.mono ac
  replace hf_f := hf_f.mono ac
  refine wp_seq (wp_region_from (R_runk 0 1 [4] [(tI 4 (-1))] aw ad.plOk (by kernel_rfl) fun bf ax => ?_))
  refine wpFrom_end (by decide) (wp_ret ?_)
  obtain rfl := Option.some.inj H
  exact ret_ok (.one (.c (.int .i64 (-1)))) ax ad (by kernel_rfl) rfl

set_option maxRecDepth 100000 in
set_option maxHeartbeats 4000000 in
theorem slices_ContainsFunc_control_Range_control_Range_ok (n : Nat) {h : Heap} {w : World} (hh : Has h w) (s : List Rg) {a_s : Option Addr} {c_s : Nat} (hr_s : RepS h a_s c_s s) (f : Rg → Option Bool) {fn_f : Fn} {fa_f fc_f : Array Value} (hf_f : Fn1 h (.func fn_f fa_f fc_f) f) {r : Bool} (H : slices_ContainsFunc_control_Range_control_Range n s f = some r) :
  Calls Try.prog 100 #[.slice a_s s.length c_s, .func fn_f fa_f fc_f] w (Ret (fun h v => v = .bool r) h w) := by
 refine enter 9 [.c (.slice a_s s.length c_s), .c (.func fn_f fa_f fc_f)] Try.func100 rfl rfl rfl rfl fun t hk => ?_
 have hm := Mem.begin h w hh
 unfold slices_ContainsFunc_control_Range_control_Range at H
 refine wp_seq (wp_region_from (R_runk 0 1 [0, 1] [(tS 0 a_s s.length c_s), (1, .one (.c (.func fn_f fa_f fc_f)))] hk hm.plOk (by kernel_rfl) fun m i => ?_))
 refine wpFrom_end (by decide) (wp_seq (wp_region_from (R_runk 0 2 [6, 5] [(6, .one (.c (.func fn_f fa_f fc_f))), (tS 5 a_s s.length c_s)] i hm.plOk (by kernel_rfl) fun p j => ?_)))
 obtain ⟨x7, ex7, H⟩ := bnd H
 refine wpFrom_loud _ rfl (rfl) fun K hK => ?_
 refine wp_call [.c (.slice a_s s.length c_s), .c (.func fn_f fa_f fc_f)] _ j hm rfl rfl (by decide) (by rfl) rfl (fun _ _ => by kernel_rfl) (slices_IndexFunc_control_Range_control_Range_ok n hm.has s hr_s f hf_f ex7) fun q l u d a b => ?_
 replace hr_s := hr_s.mono a
 replace hf_f := hf_f.mono a
 obtain rfl := d
 refine ⟨.one (.c (.int .i64 x7)), rfl, fun k (e : Kn 9 [] [(tI 7 x7), (6, .one (.c (.func fn_f fa_f fc_f))), (tS 5 a_s s.length c_s)] k) => hK _ _ ?_⟩
 refine R_runk 3 2 [4] [(tB 4 (decide (x7 ≥ 0)))] e b.plOk (by kernel_rfl) fun o g => ?_
 refine wpFrom_end (by decide) (wp_ret ?_)
 obtain rfl := Option.some.inj H
 exact ret_ok (.one (.c (.bool (decide (x7 ≥ 0))))) g b (by kernel_rfl) rfl

set_option maxRecDepth 100000 in
set_option maxHeartbeats 4000000 in
theorem slices_ContainsFunc_control_Bus_control_Bus_ok (n : Nat) {h : Heap} {w : World} (hh : Has h w) (s : List Bus) {a_s : Option Addr} {c_s : Nat} (hr_s : RepS h a_s c_s s) (f : Bus → Option Bool) {fn_f : Fn} {fa_f fc_f : Array Value} (hf_f : Fn2 h (.func fn_f fa_f fc_f) f) {r : Bool} (H : slices_ContainsFunc_control_Bus_control_Bus n s f = some r) :
  Calls Try.prog 102 #[.slice a_s s.length c_s, .func fn_f fa_f fc_f] w (Ret (fun h v => v = .bool r) h w) := by
 refine enter 9 [.c (.slice a_s s.length c_s), .c (.func fn_f fa_f fc_f)] Try.func102 rfl rfl rfl rfl fun t hk => ?_
 have hm := Mem.begin h w hh
 unfold slices_ContainsFunc_control_Bus_control_Bus at H
 refine wp_seq (wp_region_from (R_runk 0 1 [0, 1] [(tS 0 a_s s.length c_s), (1, .one (.c (.func fn_f fa_f fc_f)))] hk hm.plOk (by kernel_rfl) fun m i => ?_))
 refine wpFrom_end (by decide) (wp_seq (wp_region_from (R_runk 0 2 [6, 5] [(6, .one (.c (.func fn_f fa_f fc_f))), (tS 5 a_s s.length c_s)] i hm.plOk (by kernel_rfl) fun p j => ?_)))
 obtain ⟨x7, ex7, H⟩ := bnd H
 refine wpFrom_loud _ rfl (rfl) fun K hK => ?_
 refine wp_call [.c (.slice a_s s.length c_s), .c (.func fn_f fa_f fc_f)] _ j hm rfl rfl (by decide) (by rfl) rfl (fun _ _ => by kernel_rfl) (slices_IndexFunc_control_Bus_control_Bus_ok n hm.has s hr_s f hf_f ex7) fun q l u d a b => ?_
 replace hr_s := hr_s.mono a
 replace hf_f := hf_f.mono a
 obtain rfl := d
 refine ⟨.one (.c (.int .i64 x7)), rfl, fun k (e : Kn 9 [] [(tI 7 x7), (6, .one (.c (.func fn_f fa_f fc_f))), (tS 5 a_s s.length c_s)] k) => hK _ _ ?_⟩
 refine R_runk 3 2 [4] [(tB 4 (decide (x7 ≥ 0)))] e b.plOk (by kernel_rfl) fun o g => ?_
 refine wpFrom_end (by decide) (wp_ret ?_)
 obtain rfl := Option.some.inj H
 exact ret_ok (.one (.c (.bool (decide (x7 ≥ 0))))) g b (by kernel_rfl) rfl

set_option maxRecDepth 100000 in
set_option maxHeartbeats 4000000 in
theorem slices_ContainsFunc_control_Spare_control_Spare_ok (n : Nat) {h : Heap} {w : World} (hh : Has h w) (s : List Spare) {a_s : Option Addr} {c_s : Nat} (hr_s : RepS h a_s c_s s) (f : Spare → Option Bool) {fn_f : Fn} {fa_f fc_f : Array Value} (hf_f : Fn3 h (.func fn_f fa_f fc_f) f) {r : Bool} (H : slices_ContainsFunc_control_Spare_control_Spare n s f = some r) :
  Calls Try.prog 104 #[.slice a_s s.length c_s, .func fn_f fa_f fc_f] w (Ret (fun h v => v = .bool r) h w) := by
 refine enter 9 [.c (.slice a_s s.length c_s), .c (.func fn_f fa_f fc_f)] Try.func104 rfl rfl rfl rfl fun t hk => ?_
 have hm := Mem.begin h w hh
 unfold slices_ContainsFunc_control_Spare_control_Spare at H
 refine wp_seq (wp_region_from (R_runk 0 1 [0, 1] [(tS 0 a_s s.length c_s), (1, .one (.c (.func fn_f fa_f fc_f)))] hk hm.plOk (by kernel_rfl) fun m i => ?_))
 refine wpFrom_end (by decide) (wp_seq (wp_region_from (R_runk 0 2 [6, 5] [(6, .one (.c (.func fn_f fa_f fc_f))), (tS 5 a_s s.length c_s)] i hm.plOk (by kernel_rfl) fun p j => ?_)))
 obtain ⟨x7, ex7, H⟩ := bnd H
 refine wpFrom_loud _ rfl (rfl) fun K hK => ?_
 refine wp_call [.c (.slice a_s s.length c_s), .c (.func fn_f fa_f fc_f)] _ j hm rfl rfl (by decide) (by rfl) rfl (fun _ _ => by kernel_rfl) (slices_IndexFunc_control_Spare_control_Spare_ok n hm.has s hr_s f hf_f ex7) fun q l u d a b => ?_
 replace hr_s := hr_s.mono a
 replace hf_f := hf_f.mono a
 obtain rfl := d
 refine ⟨.one (.c (.int .i64 x7)), rfl, fun k (e : Kn 9 [] [(tI 7 x7), (6, .one (.c (.func fn_f fa_f fc_f))), (tS 5 a_s s.length c_s)] k) => hK _ _ ?_⟩
 refine R_runk 3 2 [4] [(tB 4 (decide (x7 ≥ 0)))] e b.plOk (by kernel_rfl) fun o g => ?_
 refine wpFrom_end (by decide) (wp_ret ?_)
 obtain rfl := Option.some.inj H
 exact ret_ok (.one (.c (.bool (decide (x7 ≥ 0))))) g b (by kernel_rfl) rfl

set_option maxRecDepth 100000 in
set_option maxHeartbeats 4000000 in
theorem control_all_control_Range_1_ok (n : Nat) {h : Heap} {w : World} (hh : Has h w) (x : Rg) {cs_x : List Value} (hx_x : rep h x cs_x) (q0 : Rg → Option Bool) {b_q0 : Nat} (hb_q0 : BoxS h b_q0 q0) {r : Bool} (H : control_all_control_Range_1 n x q0 = some r) :
  Calls Try.prog 101 #[.agg cs_x.toArray, .pointer (some ⟨b_q0, 0, none⟩)] w (Ret (fun h v => v = .bool r) h w) := by
 obtain ⟨_, _, rfl, rfl, rfl⟩ := hx_x
 obtain ⟨_, hx_q0, hc_q0⟩ := id hb_q0
 obtain ⟨d, a, b, rfl, i⟩ := hx_q0
 refine enter' (e := [(b_q0, 0)]) 8 [.agg [.int .i64 x.lo, .int .i64 x.hi], .c (.ptr 0 0)] Try.func101 rfl rfl rfl rfl fun t hk => ?_
 have hm := Mem.begin h w hh
 replace hm := hm.addPlc (o := 0) (cs := [.func d a b]) (fun j c hj => by rw [Nat.zero_add]; exact hc_q0 j _ (map_get hj)) rfl (by kernel_rfl) (by kernel_rfl)
 replace hm : Mem ⟨w, h, noX⟩ h [(b_q0, 0)] [⟨[.func d a b], none⟩] [] w := hm
 unfold control_all_control_Range_1 at H
 refine wp_seq (wp_region_from (wpFrom_loud _ rfl (rfl) fun K hK => ?_))
 refine wp_box (.agg [.int .i64 x.lo, .int .i64 x.hi]) hk hm rfl rfl (by decide) (by kernel_rfl) (by kernel_rfl) (by kernel_rfl) fun g aa ab (y : Kn 8 [(b_q0, 0), (g, 0)] [(tP 2 1 0), (tA 0 [.int .i64 x.lo, .int .i64 x.hi]), (tP 1 0 0)] aa) (f : Mem ⟨w, h, noX⟩ h [(b_q0, 0), (g, 0)] [⟨[.func d a b], none⟩, ⟨[.int .i64 x.lo, .int .i64 x.hi], some 39⟩] [] ab) => hK _ _ ?_
 refine R_runk 1 1 [2, 1] [(tP 2 1 0), (tP 1 0 0)] y f.plOk (by kernel_rfl) fun ad p => ?_
 refine wpFrom_end (by decide) (wp_seq (wp_region_from (R_runk 0 2 [5, 4] [(tA 5 [.int .i64 x.lo, .int .i64 x.hi]), (4, .one (.c (.func d a b)))] p f.plOk (by kernel_rfl) fun ae q => ?_)))
 obtain ⟨x6, ex6, H⟩ := bnd H
 refine wpFrom_loud _ rfl (rfl) fun K hK => ?_
 refine wp_callV (.func d a b) [.agg [.int .i64 x.lo, .int .i64 x.hi]] _ q f rfl rfl (by decide) (by rfl) (by rfl) rfl (i _ _ (Heap.le_refl _) f.has x _ ((rep_pair rep_int rep_int) : rep h x _) _ ex6) fun ag ac ah m k l => ?_
 replace i := i.mono k
 replace hb_q0 := hb_q0.mono k
 obtain rfl := m
 refine ⟨.one (.c (.bool x6)), rfl, fun z (s : Kn 8 [(b_q0, 0), (g, 0)] [(tB 6 x6), (tA 5 [.int .i64 x.lo, .int .i64 x.hi]), (4, .one (.c (.func d a b)))] z) => hK _ _ ?_⟩
 refine R_runk 3 2 [3] [(tB 3 (!x6))] s l.plOk (by kernel_rfl) fun af u => ?_
 refine wpFrom_end (by decide) (wp_ret ?_)
 obtain rfl := Option.some.inj H
 exact ret_ok (.one (.c (.bool (!x6)))) u l (by kernel_rfl) rfl

abbrev K103c1 (x : Bus) : List SC := [.int .i64 x.stop, .int .i64 x.tm.lo, .int .i64 x.tm.hi]
set_option maxRecDepth 100000 in
set_option maxHeartbeats 4000000 in
theorem control_all_control_Bus_1_ok (n : Nat) {h : Heap} {w : World} (hh : Has h w) (x : Bus) {cs_x : List Value} (hx_x : rep h x cs_x) (q0 : Bus → Option Bool) {b_q0 : Nat} (hb_q0 : BoxS h b_q0 q0) {r : Bool} (H : control_all_control_Bus_1 n x q0 = some r) :
  Calls Try.prog 103 #[.agg cs_x.toArray, .pointer (some ⟨b_q0, 0, none⟩)] w (Ret (fun h v => v = .bool r) h w) := by
 obtain ⟨_, _, rfl, rfl, ⟨_, _, rfl, rfl, rfl⟩⟩ := hx_x
 obtain ⟨_, hx_q0, hc_q0⟩ := id hb_q0
 obtain ⟨d, a, b, rfl, i⟩ := hx_q0
 refine enter' (e := [(b_q0, 0)]) 8 [.agg (K103c1 x), .c (.ptr 0 0)] Try.func103 rfl rfl rfl rfl fun t hk => ?_
 have hm := Mem.begin h w hh
 replace hm := hm.addPlc (o := 0) (cs := [.func d a b]) (fun j c hj => by rw [Nat.zero_add]; exact hc_q0 j _ (map_get hj)) rfl (by kernel_rfl) (by kernel_rfl)
 replace hm : Mem ⟨w, h, noX⟩ h [(b_q0, 0)] [⟨[.func d a b], none⟩] [] w := hm
 unfold control_all_control_Bus_1 at H
 refine wp_seq (wp_region_from (wpFrom_loud _ rfl (rfl) fun K hK => ?_))
 refine wp_box (.agg (K103c1 x)) hk hm rfl rfl (by decide) (by kernel_rfl) (by kernel_rfl) (by kernel_rfl) fun g aa ab (y : Kn 8 [(b_q0, 0), (g, 0)] [(tP 2 1 0), (tA 0 (K103c1 x)), (tP 1 0 0)] aa) (f : Mem ⟨w, h, noX⟩ h [(b_q0, 0), (g, 0)] [⟨[.func d a b], none⟩, ⟨(K103c1 x), some 96⟩] [] ab) => hK _ _ ?_
 refine R_runk 1 1 [2, 1] [(tP 2 1 0), (tP 1 0 0)] y f.plOk (by kernel_rfl) fun ad p => ?_
 refine wpFrom_end (by decide) (wp_seq (wp_region_from (R_runk 0 2 [5, 4] [(tA 5 (K103c1 x)), (4, .one (.c (.func d a b)))] p f.plOk (by kernel_rfl) fun ae q => ?_)))
 obtain ⟨x6, ex6, H⟩ := bnd H
 refine wpFrom_loud _ rfl (rfl) fun K hK => ?_
 refine wp_callV (.func d a b) [.agg (K103c1 x)] _ q f rfl rfl (by decide) (by rfl) (by rfl) rfl (i _ _ (Heap.le_refl _) f.has x _ ((rep_pair rep_int (rep_pair rep_int rep_int)) : rep h x _) _ ex6) fun ag ac ah m k l => ?_
 replace i := i.mono k
 replace hb_q0 := hb_q0.mono k
 obtain rfl := m
 refine ⟨.one (.c (.bool x6)), rfl, fun z (s : Kn 8 [(b_q0, 0), (g, 0)] [(tB 6 x6), (tA 5 (K103c1 x)), (4, .one (.c (.func d a b)))] z) => hK _ _ ?_⟩
 refine R_runk 3 2 [3] [(tB 3 (!x6))] s l.plOk (by kernel_rfl) fun af u => ?_
 refine wpFrom_end (by decide) (wp_ret ?_)
 obtain rfl := Option.some.inj H
 exact ret_ok (.one (.c (.bool (!x6)))) u l (by kernel_rfl) rfl

set_option maxRecDepth 100000 in
set_option maxHeartbeats 4000000 in
theorem control_all_control_Spare_1_ok (n : Nat) {h : Heap} {w : World} (hh : Has h w) (x : Spare) {cs_x : List Value} (hx_x : rep h x cs_x) (q0 : Spare → Option Bool) {b_q0 : Nat} (hb_q0 : BoxS h b_q0 q0) {r : Bool} (H : control_all_control_Spare_1 n x q0 = some r) :
  Calls Try.prog 105 #[.agg cs_x.toArray, .pointer (some ⟨b_q0, 0, none⟩)] w (Ret (fun h v => v = .bool r) h w) := by
 obtain ⟨_, _, rfl, rfl, rfl⟩ := hx_x
 obtain ⟨_, hx_q0, hc_q0⟩ := id hb_q0
 obtain ⟨d, a, b, rfl, i⟩ := hx_q0
 refine enter' (e := [(b_q0, 0)]) 8 [.agg [.int .i64 x.stop, .int .i64 x.tm], .c (.ptr 0 0)] Try.func105 rfl rfl rfl rfl fun t hk => ?_
 have hm := Mem.begin h w hh
 replace hm := hm.addPlc (o := 0) (cs := [.func d a b]) (fun j c hj => by rw [Nat.zero_add]; exact hc_q0 j _ (map_get hj)) rfl (by kernel_rfl) (by kernel_rfl)
 replace hm : Mem ⟨w, h, noX⟩ h [(b_q0, 0)] [⟨[.func d a b], none⟩] [] w := hm
 unfold control_all_control_Spare_1 at H
 refine wp_seq (wp_region_from (wpFrom_loud _ rfl (rfl) fun K hK => ?_))
 refine wp_box (.agg [.int .i64 x.stop, .int .i64 x.tm]) hk hm rfl rfl (by decide) (by kernel_rfl) (by kernel_rfl) (by kernel_rfl) fun g aa ab (y : Kn 8 [(b_q0, 0), (g, 0)] [(tP 2 1 0), (tA 0 [.int .i64 x.stop, .int .i64 x.tm]), (tP 1 0 0)] aa) (f : Mem ⟨w, h, noX⟩ h [(b_q0, 0), (g, 0)] [⟨[.func d a b], none⟩, ⟨[.int .i64 x.stop, .int .i64 x.tm], some 110⟩] [] ab) => hK _ _ ?_
 refine R_runk 1 1 [2, 1] [(tP 2 1 0), (tP 1 0 0)] y f.plOk (by kernel_rfl) fun ad p => ?_
 refine wpFrom_end (by decide) (wp_seq (wp_region_from (R_runk 0 2 [5, 4] [(tA 5 [.int .i64 x.stop, .int .i64 x.tm]), (4, .one (.c (.func d a b)))] p f.plOk (by kernel_rfl) fun ae q => ?_)))
 obtain ⟨x6, ex6, H⟩ := bnd H
 refine wpFrom_loud _ rfl (rfl) fun K hK => ?_
 refine wp_callV (.func d a b) [.agg [.int .i64 x.stop, .int .i64 x.tm]] _ q f rfl rfl (by decide) (by rfl) (by rfl) rfl (i _ _ (Heap.le_refl _) f.has x _ ((rep_pair rep_int rep_int) : rep h x _) _ ex6) fun ag ac ah m k l => ?_
 replace i := i.mono k
 replace hb_q0 := hb_q0.mono k
 obtain rfl := m
 refine ⟨.one (.c (.bool x6)), rfl, fun z (s : Kn 8 [(b_q0, 0), (g, 0)] [(tB 6 x6), (tA 5 [.int .i64 x.stop, .int .i64 x.tm]), (4, .one (.c (.func d a b)))] z) => hK _ _ ?_⟩
 refine R_runk 3 2 [3] [(tB 3 (!x6))] s l.plOk (by kernel_rfl) fun af u => ?_
 refine wpFrom_end (by decide) (wp_ret ?_)
 obtain rfl := Option.some.inj H
 exact ret_ok (.one (.c (.bool (!x6)))) u l (by kernel_rfl) rfl

set_option maxRecDepth 100000 in
set_option maxHeartbeats 4000000 in
theorem control_all_control_Range_ok (n : Nat) {h : Heap} {w : World} (hh : Has h w) (l : List Rg) {a_l : Option Addr} {c_l : Nat} (hr_l : RepS h a_l c_l l) (right : Rg → Option Bool) {fn_right : Fn} {fa_right fc_right : Array Value} (hf_right : Fn1 h (.func fn_right fa_right fc_right) right) {r : Bool} (H : control_all_control_Range n l right = some r) :
  Calls Try.prog 80 #[.slice a_l l.length c_l, .func fn_right fa_right fc_right] w (Ret (fun h v => v = .bool r) h w) := by
 refine enter 9 [.c (.slice a_l l.length c_l), .c (.func fn_right fa_right fc_right)] Try.func80 rfl rfl rfl rfl fun t hk => ?_
 have hm := Mem.begin h w hh
 unfold control_all_control_Range at H
 refine wp_seq (wp_region_from (wpFrom_loud _ rfl (rfl) fun K hK => ?_))
 refine wp_box (.c (.func fn_right fa_right fc_right)) hk hm rfl rfl (by decide) (by kernel_rfl) (by kernel_rfl) (by kernel_rfl) fun a ad q (z : Kn 9 [(a, 0)] [(tP 3 0 0), (tS 0 a_l l.length c_l), (1, .one (.c (.func fn_right fa_right fc_right)))] ad) (j : Mem ⟨w, h, noX⟩ h [(a, 0)] [⟨[.func fn_right fa_right fc_right], some 141⟩] [] q) => hK _ _ ?_
 refine R_runk 1 1 [3, 0] [(tP 3 0 0), (tS 0 a_l l.length c_l)] z j.plOk (by kernel_rfl) fun ah aa => ?_
 refine wpFrom_end (by decide) (wp_seq (wp_region_from (R_runk 0 1 [5, 3] [(tS 5 a_l l.length c_l), (tP 3 0 0)] aa j.plOk (by kernel_rfl) fun ai ab => ?_)))
 obtain ⟨b, o, m, f⟩ := j.settlePlc (i := 0) rfl
 replace hr_l := hr_l.mono o
 replace hf_right := hf_right.mono o
 replace f : Mem ⟨w, h, noX⟩ b [(a, 0)] [⟨[.func fn_right fa_right fc_right], none⟩] [] q := f
 have g : BoxS b a (right : Rg → Option Bool) := BoxS.of (e := [(a, 0)]) (cs := [.func fn_right fa_right fc_right]) (⟨_, _, _, rfl, hf_right⟩ : rep b (right : Rg → Option Bool) _) rfl m
 have k : CellsAt b a [.func fn_right fa_right fc_right] := CellsAt.of (e := [(a, 0)]) (cs := [.func fn_right fa_right fc_right]) rfl m
 refine R_func 1 #[] #[.pointer (some ⟨a, 0, none⟩)] ab rfl rfl (rfl) rfl (by decide) (by rfl) (by rfl) (by rfl) (by rfl) fun ac (u : Kn 9 [(a, 0)] [(6, .one (.c (.func (.func 101) #[] #[.pointer (some ⟨a, 0, none⟩)]))), (tS 5 a_l l.length c_l), (tP 3 0 0)] ac) => ?_
 obtain ⟨x7, ex7, H⟩ := bnd H
 refine wpFrom_loud _ rfl (rfl) fun K hK => ?_
 refine wp_call [.c (.slice a_l l.length c_l), .c (.func (.func 101) #[] #[.pointer (some ⟨a, 0, none⟩)])] _ u f rfl rfl (by decide) (by rfl) rfl (fun _ _ => by kernel_rfl) (slices_ContainsFunc_control_Range_control_Range_ok n f.has l hr_l (fun (y0 : Rg) => control_all_control_Range_1 n y0 right) (show Fn1 b (.func (.func 101) #[] #[.pointer (some ⟨a, 0, none⟩)]) (fun (y0 : Rg) => control_all_control_Range_1 n y0 right) from fun h2 w2 hle hh y0 cs0 hy0 r H => ⟨101, _, _, rfl, fun _ _ => by kernel_rfl, control_all_control_Range_1_ok n hh y0 hy0 right (g.mono hle) H⟩) ex7) fun aj af ak s d p => ?_
 replace hr_l := hr_l.mono d
 replace hf_right := hf_right.mono d
 replace g := g.mono d
 replace k := k.mono d
 obtain rfl := s
 refine ⟨.one (.c (.bool x7)), rfl, fun ae (x : Kn 9 [(a, 0)] [(tB 7 x7), (6, .one (.c (.func (.func 101) #[] #[.pointer (some ⟨a, 0, none⟩)]))), (tS 5 a_l l.length c_l), (tP 3 0 0)] ae) => hK _ _ ?_⟩
 refine R_runk 3 2 [4] [(tB 4 (!x7))] x p.plOk (by kernel_rfl) fun ag y => ?_
 refine wpFrom_end (by decide) (wp_ret ?_)
 obtain rfl := Option.some.inj H
 exact ret_ok (.one (.c (.bool (!x7)))) y p (by kernel_rfl) rfl

set_option maxRecDepth 100000 in
set_option maxHeartbeats 4000000 in
theorem control_all_control_Bus_ok (n : Nat) {h : Heap} {w : World} (hh : Has h w) (l : List Bus) {a_l : Option Addr} {c_l : Nat} (hr_l : RepS h a_l c_l l) (right : Bus → Option Bool) {fn_right : Fn} {fa_right fc_right : Array Value} (hf_right : Fn2 h (.func fn_right fa_right fc_right) right) {r : Bool} (H : control_all_control_Bus n l right = some r) :
  Calls Try.prog 82 #[.slice a_l l.length c_l, .func fn_right fa_right fc_right] w (Ret (fun h v => v = .bool r) h w) := by
 refine enter 9 [.c (.slice a_l l.length c_l), .c (.func fn_right fa_right fc_right)] Try.func82 rfl rfl rfl rfl fun t hk => ?_
 have hm := Mem.begin h w hh
 unfold control_all_control_Bus at H
 refine wp_seq (wp_region_from (wpFrom_loud _ rfl (rfl) fun K hK => ?_))
 refine wp_box (.c (.func fn_right fa_right fc_right)) hk hm rfl rfl (by decide) (by kernel_rfl) (by kernel_rfl) (by kernel_rfl) fun a ad q (z : Kn 9 [(a, 0)] [(tP 3 0 0), (tS 0 a_l l.length c_l), (1, .one (.c (.func fn_right fa_right fc_right)))] ad) (j : Mem ⟨w, h, noX⟩ h [(a, 0)] [⟨[.func fn_right fa_right fc_right], some 138⟩] [] q) => hK _ _ ?_
 refine R_runk 1 1 [3, 0] [(tP 3 0 0), (tS 0 a_l l.length c_l)] z j.plOk (by kernel_rfl) fun ah aa => ?_
 refine wpFrom_end (by decide) (wp_seq (wp_region_from (R_runk 0 1 [5, 3] [(tS 5 a_l l.length c_l), (tP 3 0 0)] aa j.plOk (by kernel_rfl) fun ai ab => ?_)))
 obtain ⟨b, o, m, f⟩ := j.settlePlc (i := 0) rfl
 replace hr_l := hr_l.mono o
 replace hf_right := hf_right.mono o
 replace f : Mem ⟨w, h, noX⟩ b [(a, 0)] [⟨[.func fn_right fa_right fc_right], none⟩] [] q := f
 have g : BoxS b a (right : Bus → Option Bool) := BoxS.of (e := [(a, 0)]) (cs := [.func fn_right fa_right fc_right]) (⟨_, _, _, rfl, hf_right⟩ : rep b (right : Bus → Option Bool) _) rfl m
 have k : CellsAt b a [.func fn_right fa_right fc_right] := CellsAt.of (e := [(a, 0)]) (cs := [.func fn_right fa_right fc_right]) rfl m
 refine R_func 1 #[] #[.pointer (some ⟨a, 0, none⟩)] ab rfl rfl (rfl) rfl (by decide) (by rfl) (by rfl) (by rfl) (by rfl) fun ac (u : Kn 9 [(a, 0)] [(6, .one (.c (.func (.func 103) #[] #[.pointer (some ⟨a, 0, none⟩)]))), (tS 5 a_l l.length c_l), (tP 3 0 0)] ac) => ?_
 obtain ⟨x7, ex7, H⟩ := bnd H
 refine wpFrom_loud _ rfl (rfl) fun K hK => ?_
 refine wp_call [.c (.slice a_l l.length c_l), .c (.func (.func 103) #[] #[.pointer (some ⟨a, 0, none⟩)])] _ u f rfl rfl (by decide) (by rfl) rfl (fun _ _ => by kernel_rfl) (slices_ContainsFunc_control_Bus_control_Bus_ok n f.has l hr_l (fun (y0 : Bus) => control_all_control_Bus_1 n y0 right) (show Fn2 b (.func (.func 103) #[] #[.pointer (some ⟨a, 0, none⟩)]) (fun (y0 : Bus) => control_all_control_Bus_1 n y0 right) from fun h2 w2 hle hh y0 cs0 hy0 r H => ⟨103, _, _, rfl, fun _ _ => by kernel_rfl, control_all_control_Bus_1_ok n hh y0 hy0 right (g.mono hle) H⟩) ex7) fun aj af ak s d p => ?_
 replace hr_l := hr_l.mono d
 replace hf_right := hf_right.mono d
 replace g := g.mono d
 replace k := k.mono d
 obtain rfl := s
 refine ⟨.one (.c (.bool x7)), rfl, fun ae (x : Kn 9 [(a, 0)] [(tB 7 x7), (6, .one (.c (.func (.func 103) #[] #[.pointer (some ⟨a, 0, none⟩)]))), (tS 5 a_l l.length c_l), (tP 3 0 0)] ae) => hK _ _ ?_⟩
 refine R_runk 3 2 [4] [(tB 4 (!x7))] x p.plOk (by kernel_rfl) fun ag y => ?_
 refine wpFrom_end (by decide) (wp_ret ?_)
 obtain rfl := Option.some.inj H
 exact ret_ok (.one (.c (.bool (!x7)))) y p (by kernel_rfl) rfl

set_option maxRecDepth 100000 in
set_option maxHeartbeats 4000000 in
theorem control_all_control_Spare_ok (n : Nat) {h : Heap} {w : World} (hh : Has h w) (l : List Spare) {a_l : Option Addr} {c_l : Nat} (hr_l : RepS h a_l c_l l) (right : Spare → Option Bool) {fn_right : Fn} {fa_right fc_right : Array Value} (hf_right : Fn3 h (.func fn_right fa_right fc_right) right) {r : Bool} (H : control_all_control_Spare n l right = some r) :
  Calls Try.prog 83 #[.slice a_l l.length c_l, .func fn_right fa_right fc_right] w (Ret (fun h v => v = .bool r) h w) := by
 refine enter 9 [.c (.slice a_l l.length c_l), .c (.func fn_right fa_right fc_right)] Try.func83 rfl rfl rfl rfl fun t hk => ?_
 have hm := Mem.begin h w hh
 unfold control_all_control_Spare at H
 refine wp_seq (wp_region_from (wpFrom_loud _ rfl (rfl) fun K hK => ?_))
 refine wp_box (.c (.func fn_right fa_right fc_right)) hk hm rfl rfl (by decide) (by kernel_rfl) (by kernel_rfl) (by kernel_rfl) fun a ad q (z : Kn 9 [(a, 0)] [(tP 3 0 0), (tS 0 a_l l.length c_l), (1, .one (.c (.func fn_right fa_right fc_right)))] ad) (j : Mem ⟨w, h, noX⟩ h [(a, 0)] [⟨[.func fn_right fa_right fc_right], some 139⟩] [] q) => hK _ _ ?_
 refine R_runk 1 1 [3, 0] [(tP 3 0 0), (tS 0 a_l l.length c_l)] z j.plOk (by kernel_rfl) fun ah aa => ?_
 refine wpFrom_end (by decide) (wp_seq (wp_region_from (R_runk 0 1 [5, 3] [(tS 5 a_l l.length c_l), (tP 3 0 0)] aa j.plOk (by kernel_rfl) fun ai ab => ?_)))
 obtain ⟨b, o, m, f⟩ := j.settlePlc (i := 0) rfl
 replace hr_l := hr_l.mono o
 replace hf_right := hf_right.mono o
 replace f : Mem ⟨w, h, noX⟩ b [(a, 0)] [⟨[.func fn_right fa_right fc_right], none⟩] [] q := f
 have g : BoxS b a (right : Spare → Option Bool) := BoxS.of (e := [(a, 0)]) (cs := [.func fn_right fa_right fc_right]) (⟨_, _, _, rfl, hf_right⟩ : rep b (right : Spare → Option Bool) _) rfl m
 have k : CellsAt b a [.func fn_right fa_right fc_right] := CellsAt.of (e := [(a, 0)]) (cs := [.func fn_right fa_right fc_right]) rfl m
 refine R_func 1 #[] #[.pointer (some ⟨a, 0, none⟩)] ab rfl rfl (rfl) rfl (by decide) (by rfl) (by rfl) (by rfl) (by rfl) fun ac (u : Kn 9 [(a, 0)] [(6, .one (.c (.func (.func 105) #[] #[.pointer (some ⟨a, 0, none⟩)]))), (tS 5 a_l l.length c_l), (tP 3 0 0)] ac) => ?_
 obtain ⟨x7, ex7, H⟩ := bnd H
 refine wpFrom_loud _ rfl (rfl) fun K hK => ?_
 refine wp_call [.c (.slice a_l l.length c_l), .c (.func (.func 105) #[] #[.pointer (some ⟨a, 0, none⟩)])] _ u f rfl rfl (by decide) (by rfl) rfl (fun _ _ => by kernel_rfl) (slices_ContainsFunc_control_Spare_control_Spare_ok n f.has l hr_l (fun (y0 : Spare) => control_all_control_Spare_1 n y0 right) (show Fn3 b (.func (.func 105) #[] #[.pointer (some ⟨a, 0, none⟩)]) (fun (y0 : Spare) => control_all_control_Spare_1 n y0 right) from fun h2 w2 hle hh y0 cs0 hy0 r H => ⟨105, _, _, rfl, fun _ _ => by kernel_rfl, control_all_control_Spare_1_ok n hh y0 hy0 right (g.mono hle) H⟩) ex7) fun aj af ak s d p => ?_
 replace hr_l := hr_l.mono d
 replace hf_right := hf_right.mono d
 replace g := g.mono d
 replace k := k.mono d
 obtain rfl := s
 refine ⟨.one (.c (.bool x7)), rfl, fun ae (x : Kn 9 [(a, 0)] [(tB 7 x7), (6, .one (.c (.func (.func 105) #[] #[.pointer (some ⟨a, 0, none⟩)]))), (tS 5 a_l l.length c_l), (tP 3 0 0)] ae) => hK _ _ ?_⟩
 refine R_runk 3 2 [4] [(tB 4 (!x7))] x p.plOk (by kernel_rfl) fun ag y => ?_
 refine wpFrom_end (by decide) (wp_ret ?_)
 obtain rfl := Option.some.inj H
 exact ret_ok (.one (.c (.bool (!x7)))) y p (by kernel_rfl) rfl

abbrev K50c1 (l : Option Addr) (r_ : Route) (p : Nat) (m : Option Addr) (q : Nat) (o : Option Addr) (s : Nat) : List SC := [.slice l r_.legs.length p, .int .i64 r_.turn.lo, .int .i64 r_.turn.hi, .slice m r_.buses.length q, .slice o r_.spares.length s, .int .i64 r_.unit, .int .i64 r_.gap, .int .i64 r_.fr, .int .i64 r_.to_]
abbrev K50m2 (a : Nat) : TM := [(4, .one (.c (.func (.func 77) #[] #[.pointer (some ⟨a, 0, none⟩)]))), (3, .one (.c (.func (.func 75) #[] #[.pointer (some ⟨a, 0, none⟩)]))), (tP 1 0 0)]
abbrev K50m3 (a : Nat) : TM := [(4, .one (.c (.func (.func 77) #[] #[.pointer (some ⟨a, 0, none⟩)]))), (tP 1 0 0)]
set_option maxRecDepth 100000 in
set_option maxHeartbeats 4000000 in
theorem control_Route_check_ok (n : Nat) {h : Heap} {w : World} (hh : Has h w) (r_ : Route) {cs_r_ : List Value} (hx_r_ : rep h r_ cs_r_) {r : Int} (H : control_Route_check n r_ = some r) :
  Calls Try.prog 50 #[.agg cs_r_.toArray] w (Ret (fun h v => v = .int .i64 r) h w) := by
 obtain ⟨_, _, rfl, ⟨l, p, rfl, b⟩, ⟨_, _, rfl, ⟨_, _, rfl, rfl, rfl⟩, ⟨_, _, rfl, ⟨m, q, rfl, d⟩, ⟨_, _, rfl, ⟨o, s, rfl, f⟩, ⟨_, _, rfl, rfl, ⟨_, _, rfl, rfl, ⟨_, _, rfl, rfl, rfl⟩⟩⟩⟩⟩⟩⟩ := hx_r_
 refine enter 85 [.agg (K50c1 l r_ p m q o s)] Try.func50 rfl rfl rfl rfl fun t hk => ?_
 have hm := Mem.begin h w hh
 unfold control_Route_check at H
 refine wp_seq (wp_region_from (wpFrom_loud _ rfl (rfl) fun K hK => ?_))
 refine wp_box (.agg (K50c1 l r_ p m q o s)) hk hm rfl rfl (by decide) (by kernel_rfl) (by kernel_rfl) (by kernel_rfl) fun a eg cj (c6 : Kn 85 [(a, 0)] [(tP 1 0 0), (tA 0 (K50c1 l r_ p m q o s))] eg) (b6 : Mem ⟨w, h, noX⟩ h [(a, 0)] [⟨(K50c1 l r_ p m q o s), some 43⟩] [] cj) => hK _ _ ?_
 refine R_runk 1 1 [1] [(tP 1 0 0)] c6 b6.plOk (by kernel_rfl) fun e4 dc => ?_
 refine wpFrom_end (by decide) (wp_seq (wp_region_from ?_))
 obtain ⟨al, be, bh, y⟩ := b6.settlePlc (i := 0) rfl
 replace b := b.mono be
 replace d := d.mono be
 replace f := f.mono be
 replace y : Mem ⟨w, h, noX⟩ al [(a, 0)] [⟨(K50c1 l r_ p m q o s), none⟩] [] cj := y
 have j : BoxS al a (r_ : Route) := BoxS.of (e := [(a, 0)]) (cs := (K50c1 l r_ p m q o s)) ((rep_pair (rep_slice b) (rep_pair (rep_pair rep_int rep_int) (rep_pair (rep_slice d) (rep_pair (rep_slice f) (rep_pair rep_int (rep_pair rep_int (rep_pair rep_int rep_int))))))) : rep al (r_ : Route) _) rfl bh
 have k : CellsAt al a [.slice l r_.legs.length p, .int .i64 r_.turn.lo, .int .i64 r_.turn.hi, .slice m r_.buses.length q, .slice o r_.spares.length s, .int .i64 r_.unit, .int .i64 r_.gap, .int .i64 r_.fr, .int .i64 r_.to_] := CellsAt.of (e := [(a, 0)]) (cs := [.slice l r_.legs.length p, .int .i64 r_.turn.lo, .int .i64 r_.turn.hi, .slice m r_.buses.length q, .slice o r_.spares.length s, .int .i64 r_.unit, .int .i64 r_.gap, .int .i64 r_.fr, .int .i64 r_.to_]) rfl bh
 refine R_func 0 #[] #[.pointer (some ⟨a, 0, none⟩)] dc rfl rfl (rfl) rfl (by decide) (by rfl) (by rfl) (by rfl) (by rfl) fun en (dv : Kn 85 [(a, 0)] [(5, .one (.c (.func (.func 75) #[] #[.pointer (some ⟨a, 0, none⟩)]))), (tP 1 0 0)] en) => ?_
 refine R_runk 1 1 [3, 1] [(3, .one (.c (.func (.func 75) #[] #[.pointer (some ⟨a, 0, none⟩)]))), (tP 1 0 0)] dv y.plOk (by kernel_rfl) fun fj dw => ?_
 refine wpFrom_end (by decide) (wp_seq (wp_region_from (R_func 0 #[] #[.pointer (some ⟨a, 0, none⟩)] dw rfl rfl (rfl) rfl (by decide) (by rfl) (by rfl) (by rfl) (by rfl) fun eo (dx : Kn 85 [(a, 0)] [(6, .one (.c (.func (.func 77) #[] #[.pointer (some ⟨a, 0, none⟩)]))), (3, .one (.c (.func (.func 75) #[] #[.pointer (some ⟨a, 0, none⟩)]))), (tP 1 0 0)] eo) => ?_)))
 refine R_runk 1 1 [4, 3, 1] (K50m2 a) dx y.plOk (by kernel_rfl) fun fk dy => ?_
 refine wpFrom_end (by decide) (wp_seq (wp_block (wp_seq ?_)))
 obtain ⟨b7, a6, H⟩ := bnd H
 refine wp_mid' (fun a' w' => ∃ (bf : Array Value) (am : Heap), a' = ⟨bf, []⟩ ∧ Kn 85 [(a, 0)] [(4, .one (.c (.func (.func 77) #[] #[.pointer (some ⟨a, 0, none⟩)]))), (3, .one (.c (.func (.func 75) #[] #[.pointer (some ⟨a, 0, none⟩)]))), (tP 1 0 0), (tB 7 b7)] bf ∧ Mem ⟨w, h, noX⟩ am [(a, 0)] [⟨(K50c1 l r_ p m q o s), none⟩] [] w' ∧ Heap.le al am) ?_ ?_
 ·
  refine wp_region_from (R_runk 0 5 [12, 4, 3, 1] ((tB 12 (decide (((r_.buses.length : Nat) : Int) > 4))) :: (K50m2 a)) dy y.plOk (by kernel_rfl) fun cf bx => ?_)
  rcases Bool.eq_false_or_eq_true (decide (((r_.buses.length : Nat) : Int) > 4)) with av | av
  ·
   rw [av, cond_true] at a6
   have dz : Kn 85 [(a, 0)] ((tB 12 true) :: (K50m2 a)) cf := (bx.setB 12 true (by rfl) av).keep [12, 4, 3, 1] (by rfl)
   refine R_runk 5 6 [7, 4, 3, 1] ((tB 7 true) :: (K50m2 a)) dz y.plOk (by kernel_rfl) fun fl d0 => ?_
   refine wpFrom_end (by decide) ?_
   obtain rfl := Option.some.inj a6
   exact Exists.intro _ ⟨_, rfl, (d0.keep [4, 3, 1, 7] (by rfl)), y, (Heap.le_refl _)⟩
  ·
   rw [av, cond_false] at a6
   have d1 : Kn 85 [(a, 0)] ((tB 12 false) :: (K50m2 a)) cf := (bx.setB 12 false (by rfl) av).keep [12, 4, 3, 1] (by rfl)
   refine R_runk 5 6 [7, 4, 3, 1] ((tB 7 (decide (((r_.spares.length : Nat) : Int) > 2))) :: (K50m2 a)) d1 y.plOk (by kernel_rfl) fun fm d2 => ?_
   refine wpFrom_end (by decide) ?_
   obtain rfl := Option.some.inj a6
   exact Exists.intro _ ⟨_, rfl, (d2.keep [4, 3, 1, 7] (by rfl)), y, (Heap.le_refl _)⟩
 ·
  rintro _ gb ⟨bf, am, rfl, bd, ab, a4⟩
  replace b := b.mono a4
  replace d := d.mono a4
  replace f := f.mono a4
  replace j := j.mono a4
  replace k := k.mono a4
  refine wp_cond_sv (b7) bd (by kernel_rfl) (fun ba => ?_) (fun ba => ?_)
  ·
   rw [ba, cond_true] at H
   refine wp_seq (wp_region_from (R_runk 0 1 [2] [(tI 2 3)] bd ab.plOk (by kernel_rfl) fun fn d3 => ?_))
   refine wpFrom_end (by decide) (wp_ret ?_)
   obtain rfl := Option.some.inj H
   exact ret_ok (.one (.c (.int .i64 3))) d3 ab (by kernel_rfl) rfl
  ·
   rw [ba, cond_false] at H
   refine wp_seq ?_
   obtain ⟨b8, g, H⟩ := bnd H
   refine wp_mid' (fun a' w' => ∃ (bg : Array Value) (a7 : Heap), a' = ⟨bg, []⟩ ∧ Kn 85 [(a, 0)] [(tP 1 0 0), (tB 18 b8)] bg ∧ Mem ⟨w, h, noX⟩ a7 [(a, 0)] [⟨(K50c1 l r_ p m q o s), none⟩] [] w' ∧ Heap.le am a7) ?_ ?_
   ·
    refine wp_region_from (R_runk 0 6 [24, 4, 3, 1] ((tB 24 ((Int.tmod ((r_.legs.length : Nat) : Int) 2) == 0)) :: (K50m2 a)) bd ab.plOk (by kernel_rfl) fun cg bz => ?_)
    rcases Bool.eq_false_or_eq_true (((Int.tmod ((r_.legs.length : Nat) : Int) 2) == 0)) with aw | aw
    ·
     rw [aw, cond_true] at g
     have d4 : Kn 85 [(a, 0)] ((tB 24 true) :: (K50m2 a)) cg := (bz.setB 24 true (by rfl) aw).keep [24, 4, 3, 1] (by rfl)
     refine R_runk 6 31 [18, 1] [(tB 18 true), (tP 1 0 0)] d4 ab.plOk (by kernel_rfl) fun fo d5 => ?_
     refine wpFrom_end (by decide) ?_
     obtain rfl := Option.some.inj g
     exact Exists.intro _ ⟨_, rfl, (d5.keep [1, 18] (by rfl)), ab, (Heap.le_refl _)⟩
    ·
     rw [aw, cond_false] at g
     have d6 : Kn 85 [(a, 0)] ((tB 24 false) :: (K50m2 a)) cg := (bz.setB 24 false (by rfl) aw).keep [24, 4, 3, 1] (by rfl)
     refine R_runk 6 1 [25, 24, 4, 3, 1] ((tA 25 (K50c1 l r_ p m q o s)) :: (tB 24 false) :: (K50m2 a)) d6 ab.plOk (by kernel_rfl) fun fp b0 => ?_
     obtain ⟨x26, ex26, g⟩ := bnd g
     refine wpFrom_loud _ rfl (wantedS_sound b0 (by kernel_rfl)) fun K hK => ?_
     refine wp_call [.agg (K50c1 l r_ p m q o s)] _ b0 ab rfl rfl (by decide) (by rfl) rfl (fun _ _ => by kernel_rfl) (control_Route_places_ok n ab.has r_ ((rep_pair (rep_slice b) (rep_pair (rep_pair rep_int rep_int) (rep_pair (rep_slice d) (rep_pair (rep_slice f) (rep_pair rep_int (rep_pair rep_int (rep_pair rep_int rep_int))))))) : rep am r_ _) ex26) fun f1 cv gc cq u aj => ?_
     replace b := b.mono u
     replace d := d.mono u
     replace f := f.mono u
     replace j := j.mono u
     replace k := k.mono u
     obtain rfl := cq
     refine ⟨.one (.c (.int .i64 x26)), rfl, fun ep (d7 : Kn 85 [(a, 0)] ((tI 26 x26) :: (tA 25 (K50c1 l r_ p m q o s)) :: (tB 24 false) :: (K50m2 a)) ep) => hK _ _ ?_⟩
     refine R_runk 8 3 [29, 4, 3, 1] ((tB 29 (decide (x26 > 4))) :: (K50m2 a)) d7 aj.plOk (by kernel_rfl) fun ch b1 => ?_
     rcases Bool.eq_false_or_eq_true (decide (x26 > 4)) with ax | ax
     ·
      rw [ax, cond_true] at g
      have d8 : Kn 85 [(a, 0)] ((tB 29 true) :: (K50m2 a)) ch := (b1.setB 29 true (by rfl) ax).keep [29, 4, 3, 1] (by rfl)
      refine R_runk 11 26 [18, 1] [(tB 18 true), (tP 1 0 0)] d8 aj.plOk (by kernel_rfl) fun fq d9 => ?_
      refine wpFrom_end (by decide) ?_
      obtain rfl := Option.some.inj g
      exact Exists.intro _ ⟨_, rfl, (d9.keep [1, 18] (by rfl)), aj, u⟩
     ·
      rw [ax, cond_false] at g
      have ea : Kn 85 [(a, 0)] ((tB 29 false) :: (K50m2 a)) ch := (b1.setB 29 false (by rfl) ax).keep [29, 4, 3, 1] (by rfl)
      refine R_runk 11 2 [31, 29, 4, 3, 1] ((tS 31 l r_.legs.length p) :: (tB 29 false) :: (K50m2 a)) ea aj.plOk (by kernel_rfl) fun fs b2 => ?_
      obtain ⟨x32, ex32, g⟩ := bnd g
      refine wpFrom_loud _ rfl (wantedS_sound b2 (by kernel_rfl)) fun K hK => ?_
      refine wp_call [.c (.slice l r_.legs.length p), .c (.func (.func 81) #[] #[])] _ b2 aj rfl rfl (by decide) (by rfl) rfl (fun _ _ => by kernel_rfl) (control_all_control_Range_ok n aj.has r_.legs b (fun (y0 : Rg) => control_Range_takes n y0) (show Fn1 cv (.func (.func 81) #[] #[]) (fun (y0 : Rg) => control_Range_takes n y0) from fun h2 w2 hle hh y0 cs0 hy0 r H => ⟨81, _, _, rfl, fun _ _ => by kernel_rfl, control_Range_takes_ok n hh y0 hy0 H⟩) ex32) fun f2 cw gd cr x ak => ?_
      replace b := b.mono x
      replace d := d.mono x
      replace f := f.mono x
      replace j := j.mono x
      replace k := k.mono x
      obtain rfl := cr
      refine ⟨.one (.c (.bool x32)), rfl, fun er (eb : Kn 85 [(a, 0)] ((tB 32 x32) :: (tS 31 l r_.legs.length p) :: (tB 29 false) :: (K50m2 a)) er) => hK _ _ ?_⟩
      refine R_runk 14 3 [35, 4, 3, 1] ((tB 35 (!x32)) :: (K50m2 a)) eb ak.plOk (by kernel_rfl) fun ci b3 => ?_
      rcases Bool.eq_false_or_eq_true ((!x32)) with ay | ay
      ·
       rw [ay, cond_true] at g
       have ec : Kn 85 [(a, 0)] ((tB 35 true) :: (K50m2 a)) ci := (b3.setB 35 true (by rfl) ay).keep [35, 4, 3, 1] (by rfl)
       refine R_runk 17 20 [18, 1] [(tB 18 true), (tP 1 0 0)] ec ak.plOk (by kernel_rfl) fun ft ed => ?_
       refine wpFrom_end (by decide) ?_
       obtain rfl := Option.some.inj g
       exact Exists.intro _ ⟨_, rfl, (ed.keep [1, 18] (by rfl)), ak, (Heap.le_trans u x)⟩
      ·
       rw [ay, cond_false] at g
       have ee : Kn 85 [(a, 0)] ((tB 35 false) :: (K50m2 a)) ci := (b3.setB 35 false (by rfl) ay).keep [35, 4, 3, 1] (by rfl)
       refine R_runk 17 2 [37, 35, 4, 3, 1] ((tA 37 [.int .i64 r_.turn.lo, .int .i64 r_.turn.hi]) :: (tB 35 false) :: (K50m2 a)) ee ak.plOk (by kernel_rfl) fun fu b4 => ?_
       obtain ⟨x38, ex38, g⟩ := bnd g
       refine wpFrom_loud _ rfl (wantedS_sound b4 (by kernel_rfl)) fun K hK => ?_
       refine wp_call [.agg [.int .i64 r_.turn.lo, .int .i64 r_.turn.hi]] _ b4 ak rfl rfl (by decide) (by rfl) rfl (fun _ _ => by kernel_rfl) (control_Range_takes_ok n ak.has r_.turn ((rep_pair rep_int rep_int) : rep cw r_.turn _) ex38) fun f3 cx gf ct aa ah => ?_
       replace b := b.mono aa
       replace d := d.mono aa
       replace f := f.mono aa
       replace j := j.mono aa
       replace k := k.mono aa
       obtain rfl := ct
       refine ⟨.one (.c (.bool x38)), rfl, fun ef (cy : Kn 85 [(a, 0)] ((tB 38 x38) :: (tA 37 [.int .i64 r_.turn.lo, .int .i64 r_.turn.hi]) :: (tB 35 false) :: (K50m2 a)) ef) => hK _ _ ?_⟩
       refine R_runk 20 3 [41, 4, 3, 1] ((tB 41 (!x38)) :: (K50m2 a)) cy ah.plOk (by kernel_rfl) fun b9 bi => ?_
       rcases Bool.eq_false_or_eq_true ((!x38)) with an | an
       ·
        rw [an, cond_true] at g
        have cz : Kn 85 [(a, 0)] ((tB 41 true) :: (K50m2 a)) b9 := (bi.setB 41 true (by rfl) an).keep [41, 4, 3, 1] (by rfl)
        refine R_runk 23 14 [18, 1] [(tB 18 true), (tP 1 0 0)] cz ah.plOk (by kernel_rfl) fun ex c0 => ?_
        refine wpFrom_end (by decide) ?_
        obtain rfl := Option.some.inj g
        exact Exists.intro _ ⟨_, rfl, (c0.keep [1, 18] (by rfl)), ah, (Heap.le_trans u (Heap.le_trans x aa))⟩
       ·
        rw [an, cond_false] at g
        have c1 : Kn 85 [(a, 0)] ((tB 41 false) :: (K50m2 a)) b9 := (bi.setB 41 false (by rfl) an).keep [41, 4, 3, 1] (by rfl)
        refine R_runk 23 3 [44, 43, 41, 4, 1] ((44, .one (.c (.func (.func 75) #[] #[.pointer (some ⟨a, 0, none⟩)]))) :: (tS 43 m r_.buses.length q) :: (tB 41 false) :: (K50m3 a)) c1 ah.plOk (by kernel_rfl) fun ey bj => ?_
        obtain ⟨x45, ex45, g⟩ := bnd g
        refine wpFrom_loud _ rfl (wantedS_sound bj (by kernel_rfl)) fun K hK => ?_
        refine wp_call [.c (.slice m r_.buses.length q), .c (.func (.func 75) #[] #[.pointer (some ⟨a, 0, none⟩)])] _ bj ah rfl rfl (by decide) (by rfl) rfl (fun _ _ => by kernel_rfl) (control_all_control_Bus_ok n ah.has r_.buses d (fun (y0 : Bus) => control_Route_check_1 n y0 r_) (show Fn2 cx (.func (.func 75) #[] #[.pointer (some ⟨a, 0, none⟩)]) (fun (y0 : Bus) => control_Route_check_1 n y0 r_) from fun h2 w2 hle hh y0 cs0 hy0 r H => ⟨75, _, _, rfl, fun _ _ => by kernel_rfl, control_Route_check_1_ok n hh y0 hy0 r_ (j.mono hle) H⟩) ex45) fun fv cu f4 ck ac ai => ?_
        replace b := b.mono ac
        replace d := d.mono ac
        replace f := f.mono ac
        replace j := j.mono ac
        replace k := k.mono ac
        obtain rfl := ck
        refine ⟨.one (.c (.bool x45)), rfl, fun eh (c2 : Kn 85 [(a, 0)] ((tB 45 x45) :: (44, .one (.c (.func (.func 75) #[] #[.pointer (some ⟨a, 0, none⟩)]))) :: (tS 43 m r_.buses.length q) :: (tB 41 false) :: (K50m3 a)) eh) => hK _ _ ?_⟩
        refine R_runk 27 3 [48, 4, 1] ((tB 48 (!x45)) :: (K50m3 a)) c2 ai.plOk (by kernel_rfl) fun ca bk => ?_
        rcases Bool.eq_false_or_eq_true ((!x45)) with ao | ao
        ·
         rw [ao, cond_true] at g
         have c3 : Kn 85 [(a, 0)] ((tB 48 true) :: (K50m3 a)) ca := (bk.setB 48 true (by rfl) ao).keep [48, 4, 1] (by rfl)
         refine R_runk 30 7 [18, 1] [(tB 18 true), (tP 1 0 0)] c3 ai.plOk (by kernel_rfl) fun ez c4 => ?_
         refine wpFrom_end (by decide) ?_
         obtain rfl := Option.some.inj g
         exact Exists.intro _ ⟨_, rfl, (c4.keep [1, 18] (by rfl)), ai, (Heap.le_trans u (Heap.le_trans x (Heap.le_trans aa ac)))⟩
        ·
         rw [ao, cond_false] at g
         have c5 : Kn 85 [(a, 0)] ((tB 48 false) :: (K50m3 a)) ca := (bk.setB 48 false (by rfl) ao).keep [48, 4, 1] (by rfl)
         refine R_runk 30 3 [51, 50, 48, 1] [(51, .one (.c (.func (.func 77) #[] #[.pointer (some ⟨a, 0, none⟩)]))), (tS 50 o r_.spares.length s), (tB 48 false), (tP 1 0 0)] c5 ai.plOk (by kernel_rfl) fun e0 bl => ?_
         obtain ⟨x52, ex52, g⟩ := bnd g
         refine wpFrom_loud _ rfl (wantedS_sound bl (by kernel_rfl)) fun K hK => ?_
         refine wp_call [.c (.slice o r_.spares.length s), .c (.func (.func 77) #[] #[.pointer (some ⟨a, 0, none⟩)])] _ bl ai rfl rfl (by decide) (by rfl) rfl (fun _ _ => by kernel_rfl) (control_all_control_Spare_ok n ai.has r_.spares f (fun (y0 : Spare) => control_Route_check_2 n y0 r_) (show Fn3 cu (.func (.func 77) #[] #[.pointer (some ⟨a, 0, none⟩)]) (fun (y0 : Spare) => control_Route_check_2 n y0 r_) from fun h2 w2 hle hh y0 cs0 hy0 r H => ⟨77, _, _, rfl, fun _ _ => by kernel_rfl, control_Route_check_2_ok n hh y0 hy0 r_ (j.mono hle) H⟩) ex52) fun fw es f5 cl ag b5 => ?_
         replace b := b.mono ag
         replace d := d.mono ag
         replace f := f.mono ag
         replace j := j.mono ag
         replace k := k.mono ag
         obtain rfl := cl
         refine ⟨.one (.c (.bool x52)), rfl, fun ei (c7 : Kn 85 [(a, 0)] [(tB 52 x52), (51, .one (.c (.func (.func 77) #[] #[.pointer (some ⟨a, 0, none⟩)]))), (tS 50 o r_.spares.length s), (tB 48 false), (tP 1 0 0)] ei) => hK _ _ ?_⟩
         refine R_runk 34 3 [18, 1] [(tB 18 (!x52)), (tP 1 0 0)] c7 b5.plOk (by kernel_rfl) fun e1 c8 => ?_
         refine wpFrom_end (by decide) ?_
         obtain rfl := Option.some.inj g
         exact Exists.intro _ ⟨_, rfl, (c8.keep [1, 18] (by rfl)), b5, (Heap.le_trans u (Heap.le_trans x (Heap.le_trans aa (Heap.le_trans ac ag))))⟩
   ·
    rintro _ f6 ⟨bg, a7, rfl, bb, a5, az⟩
    replace b := b.mono az
    replace d := d.mono az
    replace f := f.mono az
    replace j := j.mono az
    replace k := k.mono az
    refine wp_cond_sv (b8) bb (by kernel_rfl) (fun a8 => ?_) (fun a8 => ?_)
    ·
     rw [a8, cond_true] at H
     refine wp_seq (wp_region_from (R_runk 0 1 [2] [(tI 2 1)] bb a5.plOk (by kernel_rfl) fun e2 c9 => ?_))
     refine wpFrom_end (by decide) (wp_ret ?_)
     obtain rfl := Option.some.inj H
     exact ret_ok (.one (.c (.int .i64 1))) c9 a5 (by kernel_rfl) rfl
    ·
     rw [a8, cond_false] at H
     refine wp_seq (wp_region_from (R_runk 0 2 [57, 1] [(tI 57 r_.unit), (tP 1 0 0)] bb a5.plOk (by kernel_rfl) fun e3 da => ?_))
     obtain ⟨x58, ex58, H⟩ := bnd H
     refine wpFrom_loud _ rfl (rfl) fun K hK => ?_
     refine wp_call [.c (.int .i64 r_.unit), .c (.int .i64 1), .c (.int .i64 30)] _ da a5 rfl rfl (by decide) (by rfl) rfl (fun _ _ => by kernel_rfl) (control_within_ok n a5.has r_.unit 1 30 ex58) fun fx et f7 cm a0 ad => ?_
     replace b := b.mono a0
     replace d := d.mono a0
     replace f := f.mono a0
     replace j := j.mono a0
     replace k := k.mono a0
     obtain rfl := cm
     refine ⟨.one (.c (.bool x58)), rfl, fun ej (db : Kn 85 [(a, 0)] [(tB 58 x58), (tI 57 r_.unit), (tP 1 0 0)] ej) => hK _ _ ?_⟩
     refine R_runk 3 2 [60, 1] [(tB 60 (!x58)), (tP 1 0 0)] db ad.plOk (by kernel_rfl) fun cb bm => ?_
     rcases Bool.eq_false_or_eq_true ((!x58)) with ap | ap
     ·
      rw [ap, cond_true] at H
      have dd : Kn 85 [(a, 0)] [(tB 60 true), (tP 1 0 0)] cb := (bm.setB 60 true (by rfl) ap).keep [60, 1] (by rfl)
      refine R_runk 5 25 [55] [(tB 55 true)] dd ad.plOk (by kernel_rfl) fun e5 bn => ?_
      refine wpFrom_end (by decide) (wp_cond_sv true bn (by kernel_rfl) (fun hb => ?_) (fun hb => ?_))
      rotate_left
      ·
       cases hb
      refine wp_seq (wp_region_from (R_runk 0 1 [2] [(tI 2 1)] bn ad.plOk (by kernel_rfl) fun e6 de => ?_))
      refine wpFrom_end (by decide) (wp_ret ?_)
      obtain rfl := Option.some.inj H
      exact ret_ok (.one (.c (.int .i64 1))) de ad (by kernel_rfl) rfl
     ·
      rw [ap, cond_false] at H
      have df : Kn 85 [(a, 0)] [(tB 60 false), (tP 1 0 0)] cb := (bm.setB 60 false (by rfl) ap).keep [60, 1] (by rfl)
      refine R_runk 5 2 [62, 60, 1] [(tI 62 r_.gap), (tB 60 false), (tP 1 0 0)] df ad.plOk (by kernel_rfl) fun e7 bo => ?_
      obtain ⟨x63, ex63, H⟩ := bnd H
      refine wpFrom_loud _ rfl (wantedS_sound bo (by kernel_rfl)) fun K hK => ?_
      refine wp_call [.c (.int .i64 r_.gap)] _ bo ad rfl rfl (by decide) (by rfl) rfl (fun _ _ => by kernel_rfl) (control_minute_ok n ad.has r_.gap ex63) fun fy eu f8 cn a1 ae => ?_
      replace b := b.mono a1
      replace d := d.mono a1
      replace f := f.mono a1
      replace j := j.mono a1
      replace k := k.mono a1
      obtain rfl := cn
      refine ⟨.one (.c (.bool x63)), rfl, fun ek (dg : Kn 85 [(a, 0)] [(tB 63 x63), (tI 62 r_.gap), (tB 60 false), (tP 1 0 0)] ek) => hK _ _ ?_⟩
      refine R_runk 8 3 [66, 1] [(tB 66 (!x63)), (tP 1 0 0)] dg ae.plOk (by kernel_rfl) fun cc bp => ?_
      rcases Bool.eq_false_or_eq_true ((!x63)) with aq | aq
      ·
       rw [aq, cond_true] at H
       have dh : Kn 85 [(a, 0)] [(tB 66 true), (tP 1 0 0)] cc := (bp.setB 66 true (by rfl) aq).keep [66, 1] (by rfl)
       refine R_runk 11 19 [55] [(tB 55 true)] dh ae.plOk (by kernel_rfl) fun e8 bq => ?_
       refine wpFrom_end (by decide) (wp_cond_sv true bq (by kernel_rfl) (fun hb => ?_) (fun hb => ?_))
       rotate_left
       ·
        cases hb
       refine wp_seq (wp_region_from (R_runk 0 1 [2] [(tI 2 1)] bq ae.plOk (by kernel_rfl) fun e9 di => ?_))
       refine wpFrom_end (by decide) (wp_ret ?_)
       obtain rfl := Option.some.inj H
       exact ret_ok (.one (.c (.int .i64 1))) di ae (by kernel_rfl) rfl
      ·
       rw [aq, cond_false] at H
       have dj : Kn 85 [(a, 0)] [(tB 66 false), (tP 1 0 0)] cc := (bp.setB 66 false (by rfl) aq).keep [66, 1] (by rfl)
       refine R_runk 11 2 [68, 66, 1] [(tI 68 r_.fr), (tB 66 false), (tP 1 0 0)] dj ae.plOk (by kernel_rfl) fun fa br => ?_
       obtain ⟨x69, ex69, H⟩ := bnd H
       refine wpFrom_loud _ rfl (wantedS_sound br (by kernel_rfl)) fun K hK => ?_
       refine wp_call [.c (.int .i64 r_.fr)] _ br ae rfl rfl (by decide) (by rfl) rfl (fun _ _ => by kernel_rfl) (control_minute_ok n ae.has r_.fr ex69) fun fz ev f9 co a2 af => ?_
       replace b := b.mono a2
       replace d := d.mono a2
       replace f := f.mono a2
       replace j := j.mono a2
       replace k := k.mono a2
       obtain rfl := co
       refine ⟨.one (.c (.bool x69)), rfl, fun el (dk : Kn 85 [(a, 0)] [(tB 69 x69), (tI 68 r_.fr), (tB 66 false), (tP 1 0 0)] el) => hK _ _ ?_⟩
       refine R_runk 14 3 [72, 1] [(tB 72 (!x69)), (tP 1 0 0)] dk af.plOk (by kernel_rfl) fun cd bs => ?_
       rcases Bool.eq_false_or_eq_true ((!x69)) with ar | ar
       ·
        rw [ar, cond_true] at H
        have dl : Kn 85 [(a, 0)] [(tB 72 true), (tP 1 0 0)] cd := (bs.setB 72 true (by rfl) ar).keep [72, 1] (by rfl)
        refine R_runk 17 13 [55] [(tB 55 true)] dl af.plOk (by kernel_rfl) fun fb bt => ?_
        refine wpFrom_end (by decide) (wp_cond_sv true bt (by kernel_rfl) (fun hb => ?_) (fun hb => ?_))
        rotate_left
        ·
         cases hb
        refine wp_seq (wp_region_from (R_runk 0 1 [2] [(tI 2 1)] bt af.plOk (by kernel_rfl) fun fc dm => ?_))
        refine wpFrom_end (by decide) (wp_ret ?_)
        obtain rfl := Option.some.inj H
        exact ret_ok (.one (.c (.int .i64 1))) dm af (by kernel_rfl) rfl
       ·
        rw [ar, cond_false] at H
        have dn : Kn 85 [(a, 0)] [(tB 72 false), (tP 1 0 0)] cd := (bs.setB 72 false (by rfl) ar).keep [72, 1] (by rfl)
        refine R_runk 17 2 [74, 72, 1] [(tI 74 r_.to_), (tB 72 false), (tP 1 0 0)] dn af.plOk (by kernel_rfl) fun fd bu => ?_
        obtain ⟨x75, ex75, H⟩ := bnd H
        refine wpFrom_loud _ rfl (wantedS_sound bu (by kernel_rfl)) fun K hK => ?_
        refine wp_call [.c (.int .i64 r_.to_)] _ bu af rfl rfl (by decide) (by rfl) rfl (fun _ _ => by kernel_rfl) (control_minute_ok n af.has r_.to_ ex75) fun f0 ew ga cp a3 z => ?_
        replace b := b.mono a3
        replace d := d.mono a3
        replace f := f.mono a3
        replace j := j.mono a3
        replace k := k.mono a3
        obtain rfl := cp
        refine ⟨.one (.c (.bool x75)), rfl, fun em (dp : Kn 85 [(a, 0)] [(tB 75 x75), (tI 74 r_.to_), (tB 72 false), (tP 1 0 0)] em) => hK _ _ ?_⟩
        refine R_runk 20 3 [78, 1] [(tB 78 (!x75)), (tP 1 0 0)] dp z.plOk (by kernel_rfl) fun ce bv => ?_
        rcases Bool.eq_false_or_eq_true ((!x75)) with au | au
        ·
         rw [au, cond_true] at H
         have dq : Kn 85 [(a, 0)] [(tB 78 true), (tP 1 0 0)] ce := (bv.setB 78 true (by rfl) au).keep [78, 1] (by rfl)
         refine R_runk 23 7 [55] [(tB 55 true)] dq z.plOk (by kernel_rfl) fun fe bw => ?_
         refine wpFrom_end (by decide) (wp_cond_sv true bw (by kernel_rfl) (fun hb => ?_) (fun hb => ?_))
         rotate_left
         ·
          cases hb
         refine wp_seq (wp_region_from (R_runk 0 1 [2] [(tI 2 1)] bw z.plOk (by kernel_rfl) fun ff dr => ?_))
         refine wpFrom_end (by decide) (wp_ret ?_)
         obtain rfl := Option.some.inj H
         exact ret_ok (.one (.c (.int .i64 1))) dr z (by kernel_rfl) rfl
        ·
         rw [au, cond_false] at H
         have ds : Kn 85 [(a, 0)] [(tB 78 false), (tP 1 0 0)] ce := (bv.setB 78 false (by rfl) au).keep [78, 1] (by rfl)
         refine R_runk 23 7 [55] [(tB 55 (decide (r_.fr > r_.to_)))] ds z.plOk (by kernel_rfl) fun fg bc => ?_
         refine wpFrom_end (by decide) (wp_cond_sv (decide (r_.fr > r_.to_)) bc (by kernel_rfl) (fun a9 => ?_) (fun a9 => ?_))
         ·
          rw [a9, cond_true] at H
          refine wp_seq (wp_region_from (R_runk 0 1 [2] [(tI 2 1)] bc z.plOk (by kernel_rfl) fun fh dt => ?_))
          refine wpFrom_end (by decide) (wp_ret ?_)
          obtain rfl := Option.some.inj H
          exact ret_ok (.one (.c (.int .i64 1))) dt z (by kernel_rfl) rfl
         ·
          rw [a9, cond_false] at H
          refine wp_skip (wp_seq (wp_region_from (R_runk 0 1 [2] [(tI 2 0)] bc z.plOk (by kernel_rfl) fun fi du => ?_)))
          refine wpFrom_end (by decide) (wp_ret ?_)
          obtain rfl := Option.some.inj H
          exact ret_ok (.one (.c (.int .i64 0))) du z (by kernel_rfl) rfl

abbrev K63c1 (x44 : Bus) : List SC := [.int .i64 x44.stop, .int .i64 x44.tm.lo, .int .i64 x44.tm.hi]
abbrev K63c2 (o : Option Addr) (a : Acts) (q : Nat) (p : Option Addr) (s : Nat) (y : Option Addr) (z : Nat) : List SC := [.slice o a.holds.length q, .slice p a.turns.length s, .slice y a.spares.length z]
abbrev K63e3 (e f u x : Nat) (x_v10 : Int) (aa ai aj : Nat) : Env := [(e, 0), (f, 0), (u, x + (x_v10 : Int).toNat * 3), (aa, 0), (ai, aj + (x_v10 : Int).toNat * 1)]
abbrev K63c4 (g : Option Addr) (r_ : Route) (k : Nat) (b : Option Addr) (d : Nat) (i : Option Addr) (l : Nat) : List SC := [.slice g r_.legs.length k, .int .i64 r_.turn.lo, .int .i64 r_.turn.hi, .slice b r_.buses.length d, .slice i r_.spares.length l, .int .i64 r_.unit, .int .i64 r_.gap, .int .i64 r_.fr, .int .i64 r_.to_]
abbrev K63m5 (x_v10 : Int) (r_ : Route) (b : Option Addr) (d : Nat) : TM := [(tI 41 x_v10), (tI 40 ((r_.buses.length : Nat) : Int)), (tS 39 b r_.buses.length d), (tP 3 1 0), (tP 2 0 0)]
abbrev K63m6 : TM := [(tP 3 1 0), (tP 2 0 0)]
set_option maxRecDepth 100000 in
set_option maxHeartbeats 4000000 in
theorem control_Route_acts_ok (n : Nat) {h : Heap} {w : World} (hh : Has h w) (r_ : Route) {cs_r_ : List Value} (hx_r_ : rep h r_ cs_r_) (a : Acts) {cs_a : List Value} (hx_a : rep h a cs_a) {r : Int} (H : control_Route_acts n r_ a = some r) :
  Calls Try.prog 63 #[.agg cs_r_.toArray, .agg cs_a.toArray] w (Ret (fun h v => v = .int .i64 r) h w) := by
 obtain ⟨_, _, rfl, ⟨g, k, rfl, ac⟩, ⟨_, _, rfl, ⟨_, _, rfl, rfl, rfl⟩, ⟨_, _, rfl, ⟨b, d, rfl, ab⟩, ⟨_, _, rfl, ⟨i, l, rfl, ad⟩, ⟨_, _, rfl, rfl, ⟨_, _, rfl, rfl, ⟨_, _, rfl, rfl, rfl⟩⟩⟩⟩⟩⟩⟩ := hx_r_
 obtain ⟨_, _, rfl, ⟨o, q, rfl, ae⟩, ⟨_, _, rfl, ⟨p, s, rfl, af⟩, ⟨y, z, rfl, ah⟩⟩⟩ := hx_a
 refine enter 65 [.agg (K63c4 g r_ k b d i l), .agg (K63c2 o a q p s y z)] Try.func63 rfl rfl rfl rfl fun t hk => ?_
 have hm := Mem.begin h w hh
 unfold control_Route_acts at H
 refine wp_seq (wp_region_from (wpFrom_loud _ rfl (rfl) fun K hK => ?_))
 refine wp_box (.agg (K63c4 g r_ k b d i l)) hk hm rfl rfl (by decide) (by kernel_rfl) (by kernel_rfl) (by kernel_rfl) fun e d2 d7 (cy : Kn 65 [(e, 0)] [(tP 2 0 0), (tA 0 (K63c4 g r_ k b d i l)), (tA 1 (K63c2 o a q p s y z))] d2) (dg : Mem ⟨w, h, noX⟩ h [(e, 0)] [⟨(K63c4 g r_ k b d i l), some 43⟩] [] d7) => hK _ _ ?_
 refine wpFrom_loud _ rfl (rfl) fun K hK => ?_
 refine wp_box (.agg (K63c2 o a q p s y z)) cy dg rfl rfl (by decide) (by kernel_rfl) (by kernel_rfl) (by kernel_rfl) fun f d3 d8 (cz : Kn 65 [(e, 0), (f, 0)] [(tP 3 1 0), (tP 2 0 0), (tA 0 (K63c4 g r_ k b d i l)), (tA 1 (K63c2 o a q p s y z))] d3) (a2 : Mem ⟨w, h, noX⟩ h [(e, 0), (f, 0)] [⟨(K63c4 g r_ k b d i l), some 43⟩, ⟨(K63c2 o a q p s y z), some 34⟩] [] d8) => hK _ _ ?_
 refine R_runk 2 1 [3, 2] K63m6 cz a2.plOk (by kernel_rfl) fun ep c0 => ?_
 refine wpFrom_end (by decide) (wp_seq (wp_seq (wp_region_from (R_runk 0 1 [8, 3, 2] ((tA 8 (K63c4 g r_ k b d i l)) :: K63m6) c0 a2.plOk (by kernel_rfl) fun er c1 => ?_))))
 obtain ⟨x9, ex9, H⟩ := bnd H
 refine wpFrom_loud _ rfl (rfl) fun K hK => ?_
 refine wp_call [.agg (K63c4 g r_ k b d i l)] _ c1 a2 rfl rfl (by decide) (by rfl) rfl (fun _ _ => by kernel_rfl) (control_Route_check_ok n a2.has r_ ((rep_pair (rep_slice ac) (rep_pair (rep_pair rep_int rep_int) (rep_pair (rep_slice ab) (rep_pair (rep_slice ad) (rep_pair rep_int (rep_pair rep_int (rep_pair rep_int rep_int))))))) : rep h r_ _) ex9) fun e4 b7 e7 b6 ar ag => ?_
 replace ac := ac.mono ar
 replace ab := ab.mono ar
 replace ad := ad.mono ar
 replace ae := ae.mono ar
 replace af := af.mono ar
 replace ah := ah.mono ar
 obtain rfl := b6
 refine ⟨.one (.c (.int .i64 x9)), rfl, fun d4 (c2 : Kn 65 [(e, 0), (f, 0)] ((tI 9 x9) :: (tA 8 (K63c4 g r_ k b d i l)) :: K63m6) d4) => hK _ _ ?_⟩
 refine R_runk 2 1 [5, 3, 2] ((tI 5 x9) :: K63m6) c2 ag.plOk (by kernel_rfl) fun es c3 => ?_
 refine wpFrom_end (by decide) (wp_seq (wp_region_from (R_runk 0 2 [11, 5, 3, 2] ((tB 11 (x9 != 0)) :: (tI 5 x9) :: K63m6) c3 ag.plOk (by kernel_rfl) fun et bd => ?_)))
 refine wpFrom_end (by decide) (wp_cond_sv ((x9 != 0)) bd (by kernel_rfl) (fun a9 => ?_) (fun a9 => ?_))
 ·
  rw [a9, cond_true] at H
  refine wp_seq (wp_region_from (R_runk 0 2 [4] [(tI 4 x9)] bd ag.plOk (by kernel_rfl) fun eu c4 => ?_))
  refine wpFrom_end (by decide) (wp_ret ?_)
  obtain rfl := Option.some.inj H
  exact ret_ok (.one (.c (.int .i64 x9))) c4 ag (by kernel_rfl) rfl
 ·
  rw [a9, cond_false] at H
  refine wp_skip (wp_seq (wp_seq ?_))
  obtain ⟨bw, am, H⟩ := bnd H
  refine wp_mid' (fun a' w' => ∃ (bj : Array Value) (aw : Heap), a' = ⟨bj, []⟩ ∧ Kn 65 [(e, 0), (f, 0)] [(tP 3 1 0), (tP 2 0 0), (tB 37 bw)] bj ∧ Mem ⟨w, h, noX⟩ aw [(e, 0), (f, 0)] [⟨(K63c4 g r_ k b d i l), some 43⟩, ⟨(K63c2 o a q p s y z), some 34⟩] [] w' ∧ Heap.le b7 aw) ?_ ?_
  ·
   refine wp_region_from (R_runk 0 8 [20, 3, 2] ((tB 20 (((a.holds.length : Nat) : Int) != ((r_.buses.length : Nat) : Int))) :: K63m6) bd ag.plOk (by kernel_rfl) fun b1 br => ?_)
   rcases Bool.eq_false_or_eq_true ((((a.holds.length : Nat) : Int) != ((r_.buses.length : Nat) : Int))) with ay | ay
   ·
    rw [ay, cond_true] at am
    have c5 : Kn 65 [(e, 0), (f, 0)] ((tB 20 true) :: K63m6) b1 := (br.setB 20 true (by rfl) ay).keep [20, 3, 2] (by rfl)
    refine R_runk 8 17 [37, 3, 2] ((tB 37 true) :: K63m6) c5 ag.plOk (by kernel_rfl) fun ev c6 => ?_
    refine wpFrom_end (by decide) ?_
    obtain rfl := Option.some.inj am
    exact Exists.intro _ ⟨_, rfl, (c6.keep [3, 2, 37] (by rfl)), ag, (Heap.le_refl _)⟩
   ·
    rw [ay, cond_false] at am
    have c7 : Kn 65 [(e, 0), (f, 0)] ((tB 20 false) :: K63m6) b1 := (br.setB 20 false (by rfl) ay).keep [20, 3, 2] (by rfl)
    refine R_runk 8 9 [29, 3, 2] ((tB 29 (((a.turns.length : Nat) : Int) != ((r_.buses.length : Nat) : Int))) :: K63m6) c7 ag.plOk (by kernel_rfl) fun b2 bs => ?_
    rcases Bool.eq_false_or_eq_true ((((a.turns.length : Nat) : Int) != ((r_.buses.length : Nat) : Int))) with az | az
    ·
     rw [az, cond_true] at am
     have c8 : Kn 65 [(e, 0), (f, 0)] ((tB 29 true) :: K63m6) b2 := (bs.setB 29 true (by rfl) az).keep [29, 3, 2] (by rfl)
     refine R_runk 17 8 [37, 3, 2] ((tB 37 true) :: K63m6) c8 ag.plOk (by kernel_rfl) fun ew c9 => ?_
     refine wpFrom_end (by decide) ?_
     obtain rfl := Option.some.inj am
     exact Exists.intro _ ⟨_, rfl, (c9.keep [3, 2, 37] (by rfl)), ag, (Heap.le_refl _)⟩
    ·
     rw [az, cond_false] at am
     have da : Kn 65 [(e, 0), (f, 0)] ((tB 29 false) :: K63m6) b2 := (bs.setB 29 false (by rfl) az).keep [29, 3, 2] (by rfl)
     refine R_runk 17 8 [37, 3, 2] ((tB 37 (((a.spares.length : Nat) : Int) != ((r_.spares.length : Nat) : Int))) :: K63m6) da ag.plOk (by kernel_rfl) fun ex db => ?_
     refine wpFrom_end (by decide) ?_
     obtain rfl := Option.some.inj am
     exact Exists.intro _ ⟨_, rfl, (db.keep [3, 2, 37] (by rfl)), ag, (Heap.le_refl _)⟩
  ·
   rintro _ e8 ⟨bj, aw, rfl, be, a3, au⟩
   replace ac := ac.mono au
   replace ab := ab.mono au
   replace ad := ad.mono au
   replace ae := ae.mono au
   replace af := af.mono au
   replace ah := ah.mono au
   refine wp_cond_sv (bw) be (by kernel_rfl) (fun ba => ?_) (fun ba => ?_)
   ·
    rw [ba, cond_true] at H
    refine wp_seq (wp_region_from (R_runk 0 1 [4] [(tI 4 2)] be a3.plOk (by kernel_rfl) fun ey dc => ?_))
    refine wpFrom_end (by decide) (wp_ret ?_)
    obtain rfl := Option.some.inj H
    exact ret_ok (.one (.c (.int .i64 2))) dc a3 (by kernel_rfl) rfl
   ·
    rw [ba, cond_false] at H
    refine wp_skip (wp_seq (wp_seq (wp_region_from (R_runk 0 4 [41, 40, 39, 3, 2] ((tI 41 0) :: (tI 40 ((r_.buses.length : Nat) : Int)) :: (tS 39 b r_.buses.length d) :: K63m6) be a3.plOk (by kernel_rfl) fun ez dd => ?_))))
    refine wpFrom_end (by decide) ?_
    obtain ⟨bx, bm, H⟩ := bnd H
    refine wp_mid' (fun a' w' => ∃ (bz : Unit) (bk : Array Value) (a7 : Heap), a' = ⟨bk, []⟩ ∧ Kn 65 [(e, 0), (f, 0)] [] bk ∧ Mem ⟨w, h, noX⟩ a7 [(e, 0), (f, 0)] [⟨(K63c4 g r_ k b d i l), some 43⟩, ⟨(K63c2 o a q p s y z), some 34⟩] [] w' ∧ Heap.le aw a7 ∧ bx = .go bz) ?_ ?_
    ·
     refine wp_block ?_
     refine wp_loop_n (fun du a' w' => ∃ (x_v10 : Int) (bl : Array Value) (an : Heap), a' = ⟨bl, []⟩ ∧ Kn 65 [(e, 0), (f, 0)] (K63m5 x_v10 r_ b d) bl ∧ Mem ⟨w, h, noX⟩ an [(e, 0), (f, 0)] [⟨(K63c4 g r_ k b d i l), some 43⟩, ⟨(K63c2 o a q p s y z), some 34⟩] [] w' ∧ Heap.le aw an ∧ control_Route_acts_l1 du r_ a x_v10 = some bx) n ?_ ?_
     ·
      exact Exists.intro 0 ⟨_, _, rfl, (dd.keep [41, 40, 39, 3, 2] (by rfl)), a3, (Heap.le_refl _), bm⟩
     ·
      rintro a1 _ d9 ⟨x_v10, bl, an, rfl, de, a4, ak, m⟩
      clear bm
      obtain _ | a1 := a1
      ·
       rw [control_Route_acts_l1] at m; cases m
      rw [control_Route_acts_l1] at m
      replace ac := ac.mono ak
      replace ab := ab.mono ak
      replace ad := ad.mono ak
      replace ae := ae.mono ak
      replace af := af.mono ak
      replace ah := ah.mono ak
      refine wp_seq (wp_region_from (R_runk 0 1 [42, 41, 40, 39, 3, 2] ((tB 42 (decide (x_v10 < ((r_.buses.length : Nat) : Int)))) :: (K63m5 x_v10 r_ b d)) de a4.plOk (by kernel_rfl) fun e0 bf => ?_))
      refine wpFrom_end (by decide) (wp_seq (wp_cond_sv (decide (x_v10 < ((r_.buses.length : Nat) : Int))) bf (by kernel_rfl) (fun bb => ?_) (fun bb => ?_)))
      ·
       rw [bb, cond_true] at m
       refine wp_skip (wp_seq (wp_block (wp_seq (wp_region_from (R_runk 0 1 [43, 41, 40, 39, 3, 2] ((tI 43 x_v10) :: (K63m5 x_v10 r_ b d)) bf a4.plOk (by kernel_rfl) fun e1 df => ?_)))))
       obtain ⟨x44, ex44, m⟩ := bnd m
       obtain ⟨dh, dk, dr⟩ := idx_some ex44
       obtain ⟨u, x, ec, ca, dn, cb⟩ := ab.get (by decide) dr
       obtain ⟨_, _, rfl, rfl, ⟨_, _, rfl, rfl, rfl⟩⟩ := dn
       have bt : Mem ⟨w, h, noX⟩ an [(e, 0), (f, 0), (u, x + (x_v10 : Int).toNat * 3)] [⟨(K63c4 g r_ k b d i l), some 43⟩, ⟨(K63c2 o a q p s y z), some 34⟩, ⟨(K63c1 x44), none⟩] [] d9 := a4.addPlc (cs := (K63c1 x44)) (fun j c hj => cb j _ (map_get hj)) rfl (by kernel_rfl) (by kernel_rfl)
       refine R_index 1 (x_v10) rfl rfl (rfl) rfl (by decide) df (by rfl) (by rfl) (by rfl) ca (by rfl) dh dk (by kernel_rfl) fun dv (ce : Kn 65 [(e, 0), (f, 0), (u, x + (x_v10 : Int).toNat * 3)] ((tP 44 2 0) :: (tI 43 x_v10) :: (K63m5 x_v10 r_ b d)) dv) => ?_
       refine R_runk 2 1 [45, 43, 41, 40, 39, 3, 2] ((tA 45 (K63c1 x44)) :: (tI 43 x_v10) :: (K63m5 x_v10 r_ b d)) ce bt.plOk (by kernel_rfl) fun ee cf => ?_
       refine wpFrom_loud _ rfl (rfl) fun K hK => ?_
       refine wp_alloc [.int .i64 0, .int .i64 0, .int .i64 0] cf bt rfl rfl (by decide) (by kernel_rfl) (by kernel_rfl) (by kernel_rfl) fun aa dw d5 (cg : Kn 65 [(e, 0), (f, 0), (u, x + (x_v10 : Int).toNat * 3), (aa, 0)] ((tP 7 3 0) :: (tA 45 (K63c1 x44)) :: (tI 43 x_v10) :: (K63m5 x_v10 r_ b d)) dw) (bu : Mem ⟨w, h, noX⟩ an [(e, 0), (f, 0), (u, x + (x_v10 : Int).toNat * 3), (aa, 0)] [⟨(K63c4 g r_ k b d i l), some 43⟩, ⟨(K63c2 o a q p s y z), some 34⟩, ⟨(K63c1 x44), none⟩, ⟨[.int .i64 0, .int .i64 0, .int .i64 0], some 96⟩] [] d5) => hK _ _ ?_
       refine R_runk 4 1 [6, 7, 45, 41, 40, 39, 3, 2] ((tI 6 x_v10) :: (tP 7 3 0) :: (tA 45 (K63c1 x44)) :: (K63m5 x_v10 r_ b d)) cg bu.plOk (by kernel_rfl) fun dx ch => ?_
       refine wpFrom_loud _ rfl (rfl) fun K hK => ?_
       refine wp_store 3 0 (.agg (K63c1 x44)) (K63c1 x44) ch bu rfl rfl (by rfl) (by rfl) (by rfl) (by kernel_rfl) (by kernel_rfl) (by rfl) fun b3 ci (a0 : Mem ⟨w, h, noX⟩ an [(e, 0), (f, 0), (u, x + (x_v10 : Int).toNat * 3), (aa, 0)] [⟨(K63c4 g r_ k b d i l), some 43⟩, ⟨(K63c2 o a q p s y z), some 34⟩, ⟨(K63c1 x44), none⟩, ⟨(K63c1 x44), some 96⟩] [] b3) => hK _ _ ?_
       have cj : Kn 65 [(e, 0), (f, 0), (u, x + (x_v10 : Int).toNat * 3), (aa, 0)] ((tI 6 x_v10) :: (tP 7 3 0) :: (K63m5 x_v10 r_ b d)) dx := ci.keep [6, 7, 41, 40, 39, 3, 2] (by rfl)
       refine wpFrom_end (by decide) (wp_seq (wp_region_G (by kernel_rfl) ?_))
       replace a0 := a0.drew
       refine wpG_of_D [] [(e, 0), (f, 0), (u, x + (x_v10 : Int).toNat * 3), (aa, 0)] [⟨(K63c4 g r_ k b d i l), some 43⟩, ⟨(K63c2 o a q p s y z), some 34⟩, ⟨(K63c1 x44), none⟩, ⟨(K63c1 x44), some 96⟩] ?_
       refine D_run [0, 1, 2] [2, 1, 0] [48, 47, 6, 7, 41, 40, 39, 3, 2] ((tI 48 x_v10) :: (tS 47 o a.holds.length q) :: (tI 6 x_v10) :: (tP 7 3 0) :: (K63m5 x_v10 r_ b d)) (fun _ _ _ _ _ h => h) cj a0.plOk (by kernel_rfl) (by rfl) (by kernel_rfl) fun ef ck => ?_
       obtain ⟨x49, ex49, m⟩ := bnd m
       obtain ⟨di, dl, ds⟩ := idx_some ex49
       obtain ⟨ai, aj, ea, b8, dp, cc⟩ := ae.get (by decide) ds
       obtain rfl := dp
       have bg : Mem ⟨w, h, noX⟩ an (K63e3 e f u x x_v10 aa ai aj) [⟨(K63c4 g r_ k b d i l), some 43⟩, ⟨(K63c2 o a q p s y z), some 34⟩, ⟨(K63c1 x44), none⟩, ⟨(K63c1 x44), some 96⟩, ⟨[.int .i64 x49], none⟩] [] (World.drew b3) := a0.addPlc (cs := [.int .i64 x49]) (fun j c hj => cc j _ (map_get hj)) rfl (by kernel_rfl) (by kernel_rfl)
       refine D_index 3 (x_v10) [.int .i64 x49] (fun _ _ _ _ _ h => h) rfl rfl (rfl) rfl (by decide) (by kernel_rfl) (by kernel_rfl) ck a0.plOk (by rfl) (by rfl) (by rfl) b8 (by rfl) di dl (by kernel_rfl) fun dy (cl : Kn 65 (K63e3 e f u x x_v10 aa ai aj) ((tP 49 4 0) :: (tI 48 x_v10) :: (tS 47 o a.holds.length q) :: (tI 6 x_v10) :: (tP 7 3 0) :: (K63m5 x_v10 r_ b d)) dy) => ?_
       refine D_run [4] [4, 3, 2, 1, 0] [50, 6, 7, 41, 40, 39, 3, 2] ((tI 50 x49) :: (tI 6 x_v10) :: (tP 7 3 0) :: (K63m5 x_v10 r_ b d)) (fun _ _ _ _ _ h => h) cl bg.plOk (by kernel_rfl) (by rfl) (by kernel_rfl) fun eg cm => ?_
       obtain ⟨x51, ex51, m⟩ := bnd m
       refine D_loud 5 rfl (by kernel_rfl) (by decide) (rfl) fun K hK => ?_
       refine wp_call [.c (.int .i64 x49), .c (.int .i64 0), .c (.int .i64 2)] _ cm bg rfl rfl (by decide) (by rfl) rfl (fun _ _ => by kernel_rfl) (control_within_ok a1 bg.has x49 0 2 ex51) fun e2 a6 d6 b4 ao al => ?_
       replace ac := ac.mono ao
       replace ab := ab.mono ao
       replace ad := ad.mono ao
       replace ae := ae.mono ao
       replace af := af.mono ao
       replace ah := ah.mono ao
       obtain rfl := b4
       refine ⟨.one (.c (.bool x51)), rfl, fun dz (cn : Kn 65 (K63e3 e f u x x_v10 aa ai aj) ((tB 51 x51) :: (tI 50 x49) :: (tI 6 x_v10) :: (tP 7 3 0) :: (K63m5 x_v10 r_ b d)) dz) => hK _ _ al.plOk ?_⟩
       refine D_run [6, 7] [7, 6, 5, 4, 3, 2, 1, 0] [53, 6, 7, 41, 40, 39, 3, 2] ((tB 53 (!x51)) :: (tI 6 x_v10) :: (tP 7 3 0) :: (K63m5 x_v10 r_ b d)) (fun _ _ _ _ _ h => h) cn al.plOk (by kernel_rfl) (by rfl) (by kernel_rfl) fun b0 bn => ?_
       rcases Bool.eq_false_or_eq_true ((!x51)) with ax | ax
       ·
        rw [ax, cond_true] at m
        have co : Kn 65 (K63e3 e f u x x_v10 aa ai aj) ((tB 53 true) :: (tI 6 x_v10) :: (tP 7 3 0) :: (K63m5 x_v10 r_ b d)) b0 := (bn.setB 53 true (by rfl) ax).keep [53, 6, 7, 41, 40, 39, 3, 2] (by rfl)
        refine D_run [8, 9, 10, 11, 12, 13, 14, 15, 16, 17] [17, 16, 15, 14, 13, 12, 11, 10, 9, 8, 7, 6, 5, 4, 3, 2, 1, 0] [63, 41, 40, 39, 3, 2] ((tB 63 true) :: (K63m5 x_v10 r_ b d)) (fun _ _ _ _ _ h => h) co al.plOk (by kernel_rfl) (by rfl) (by kernel_rfl) fun eh bo => ?_
        refine wpD_end (by kernel_rfl) (wp_cond_sv true bo (by kernel_rfl) (fun hb => ?_) (fun hb => ?_))
        rotate_left
        ·
         cases hb
        refine wp_seq (wp_region_from (R_runk 0 1 [4] [(tI 4 2)] bo al.plOk (by kernel_rfl) fun ei cp => ?_))
        refine wpFrom_end (by decide) (wp_ret ?_)
        obtain rfl := Option.some.inj m
        obtain rfl := Option.some.inj H
        exact ret_ok (.one (.c (.int .i64 2))) cp al (by kernel_rfl) rfl
       ·
        rw [ax, cond_false] at m
        have cq : Kn 65 (K63e3 e f u x x_v10 aa ai aj) ((tB 53 false) :: (tI 6 x_v10) :: (tP 7 3 0) :: (K63m5 x_v10 r_ b d)) b0 := (bn.setB 53 false (by rfl) ax).keep [53, 6, 7, 41, 40, 39, 3, 2] (by rfl)
        refine D_run [8, 9, 10, 11, 12] [12, 11, 10, 9, 8, 7, 6, 5, 4, 3, 2, 1, 0] [58, 57, 55, 54, 53, 41, 40, 39, 3, 2] ((tI 58 x_v10) :: (tS 57 p a.turns.length s) :: (tA 55 (K63c1 x44)) :: (tA 54 (K63c4 g r_ k b d i l)) :: (tB 53 false) :: (K63m5 x_v10 r_ b d)) (fun _ _ _ _ _ h => h) cq al.plOk (by kernel_rfl) (by rfl) (by kernel_rfl) fun ej bp => ?_
        obtain ⟨x59, ex59, m⟩ := bnd m
        obtain ⟨dj, dm, dt⟩ := idx_some ex59
        obtain ⟨a5, bi, eb, b9, dq, cd⟩ := af.get (by decide) dt
        obtain rfl := dq
        have bh : Mem ⟨w, h, noX⟩ a6 [(e, 0), (f, 0), (u, x + (x_v10 : Int).toNat * 3), (aa, 0), (ai, aj + (x_v10 : Int).toNat * 1), (a5, bi + (x_v10 : Int).toNat * 1)] [⟨(K63c4 g r_ k b d i l), some 43⟩, ⟨(K63c2 o a q p s y z), some 34⟩, ⟨(K63c1 x44), none⟩, ⟨(K63c1 x44), some 96⟩, ⟨[.int .i64 x49], none⟩, ⟨[.int .i64 x59], none⟩] [] d6 := al.addPlc (cs := [.int .i64 x59]) (fun j c hj => cd j _ (map_get hj)) rfl (by kernel_rfl) (by kernel_rfl)
        refine D_index 13 (x_v10) [.int .i64 x59] (fun _ _ _ _ _ h => h) rfl rfl (wantedS_sound bp (by kernel_rfl)) rfl (by decide) (by kernel_rfl) (by kernel_rfl) bp al.plOk (by rfl) (by rfl) (by rfl) b9 (by rfl) dj dm (by kernel_rfl) fun d0 (cr : Kn 65 [(e, 0), (f, 0), (u, x + (x_v10 : Int).toNat * 3), (aa, 0), (ai, aj + (x_v10 : Int).toNat * 1), (a5, bi + (x_v10 : Int).toNat * 1)] ((tP 59 5 0) :: (tI 58 x_v10) :: (tS 57 p a.turns.length s) :: (tA 55 (K63c1 x44)) :: (tA 54 (K63c4 g r_ k b d i l)) :: (tB 53 false) :: (K63m5 x_v10 r_ b d)) d0) => ?_
        refine D_run [14] [14, 13, 12, 11, 10, 9, 8, 7, 6, 5, 4, 3, 2, 1, 0] [60, 55, 54, 53, 41, 40, 39, 3, 2] ((tI 60 x59) :: (tA 55 (K63c1 x44)) :: (tA 54 (K63c4 g r_ k b d i l)) :: (tB 53 false) :: (K63m5 x_v10 r_ b d)) (fun _ _ _ _ _ h => h) cr bh.plOk (by kernel_rfl) (by rfl) (by kernel_rfl) fun ek bq => ?_
        obtain ⟨x61, ex61, m⟩ := bnd m
        refine D_loud 15 rfl (by kernel_rfl) (by decide) (wantedS_sound bq (by kernel_rfl)) fun K hK => ?_
        refine wp_call [.agg (K63c4 g r_ k b d i l), .agg (K63c1 x44), .c (.int .i64 x59)] _ bq bh rfl rfl (by decide) (by rfl) rfl (fun _ _ => by kernel_rfl) (control_Route_turns_ok a1 bh.has r_ ((rep_pair (rep_slice ac) (rep_pair (rep_pair rep_int rep_int) (rep_pair (rep_slice ab) (rep_pair (rep_slice ad) (rep_pair rep_int (rep_pair rep_int (rep_pair rep_int rep_int))))))) : rep a6 r_ _) x44 ((rep_pair rep_int (rep_pair rep_int rep_int)) : rep a6 x44 _) x59 ex61) fun e3 ed e5 b5 ap av => ?_
        replace ac := ac.mono ap
        replace ab := ab.mono ap
        replace ad := ad.mono ap
        replace ae := ae.mono ap
        replace af := af.mono ap
        replace ah := ah.mono ap
        obtain rfl := b5
        refine ⟨.one (.c (.bool x61)), rfl, fun d1 (ct : Kn 65 [(e, 0), (f, 0), (u, x + (x_v10 : Int).toNat * 3), (aa, 0), (ai, aj + (x_v10 : Int).toNat * 1), (a5, bi + (x_v10 : Int).toNat * 1)] ((tB 61 x61) :: (tI 60 x59) :: (tA 55 (K63c1 x44)) :: (tA 54 (K63c4 g r_ k b d i l)) :: (tB 53 false) :: (K63m5 x_v10 r_ b d)) d1) => hK _ _ av.plOk ?_⟩
        refine D_run [16, 17] [17, 16, 15, 14, 13, 12, 11, 10, 9, 8, 7, 6, 5, 4, 3, 2, 1, 0] [63, 41, 40, 39, 3, 2] ((tB 63 (!x61)) :: (K63m5 x_v10 r_ b d)) (fun _ _ _ _ _ h => h) ct av.plOk (by kernel_rfl) (by rfl) (by kernel_rfl) fun el bc => ?_
        refine wpD_end (by kernel_rfl) (wp_cond_sv ((!x61)) bc (by kernel_rfl) (fun a8 => ?_) (fun a8 => ?_))
        ·
         rw [a8, cond_true] at m
         refine wp_seq (wp_region_from (R_runk 0 1 [4] [(tI 4 2)] bc av.plOk (by kernel_rfl) fun em cu => ?_))
         refine wpFrom_end (by decide) (wp_ret ?_)
         obtain rfl := Option.some.inj m
         obtain rfl := Option.some.inj H
         exact ret_ok (.one (.c (.int .i64 2))) cu av (by kernel_rfl) rfl
        ·
         rw [a8, cond_false] at m
         refine wp_skip (wp_region_from (R_runk 0 2 [41, 40, 39, 3, 2] ((tI 41 (IntKind.i64.wrap (x_v10 + 1))) :: (tI 40 ((r_.buses.length : Nat) : Int)) :: (tS 39 b r_.buses.length d) :: K63m6) bc av.plOk (by kernel_rfl) fun en cv => ?_))
         refine wpFrom_end (by decide) ?_
         exact Exists.intro a1 ⟨Nat.lt_succ_self _, Exists.intro (IntKind.i64.wrap (x_v10 + 1)) ⟨_, _, rfl, ((cv.keep [41, 40, 39, 3, 2] (by rfl)).cut 2 (by kernel_rfl)), (av.cutPl 2 (by kernel_rfl)), (Heap.le_trans ak (Heap.le_trans ao ap)), m⟩⟩
      ·
       rw [bb, cond_false] at m
       refine wp_exit ?_
       obtain rfl := Option.some.inj m
       exact Exists.intro () ⟨_, _, rfl, (bf.keep [] (by rfl)), a4, ak, rfl⟩
    ·
     rintro _ e6 ⟨bz, bk, a7, rfl, cw, bv, aq, rfl⟩
     rw [Ex.bind_go] at H
     replace ac := ac.mono aq
     replace ab := ab.mono aq
     replace ad := ad.mono aq
     replace ae := ae.mono aq
     replace af := af.mono aq
     replace ah := ah.mono aq
     refine wp_seq (wp_region_from (R_runk 0 1 [4] [(tI 4 0)] cw bv.plOk (by kernel_rfl) fun eo cx => ?_))
     refine wpFrom_end (by decide) (wp_ret ?_)
     obtain rfl := Option.some.inj H
     exact ret_ok (.one (.c (.int .i64 0))) cx bv (by kernel_rfl) rfl
end Go.Proofs.Ytokchpjijlebiaa
