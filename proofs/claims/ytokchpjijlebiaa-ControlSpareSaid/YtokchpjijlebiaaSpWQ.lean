/- Each call computes its plain function. -/
import Derived.Test.YtokchpjijlebiaaProg
import Derived.Test.YtokchpjijlebiaaSpP0
import Derived.Test.YtokchpjijlebiaaSpWP
set_option linter.all false
namespace Go.Proofs.Ytokchpjijlebiaa
open Go Go.RowKit
open Rep (rep)
open KRep (kv)
open VRep (rv)
abbrev K75c1 (b : Bus) : List SC := [.int .i64 b.stop, .int .i64 b.tm.lo, .int .i64 b.tm.hi]
abbrev K75c2 (a : Option Addr) (q0 : Route) (g : Nat) (d : Option Addr) (i : Nat) (f : Option Addr) (k : Nat) : List SC := [.slice a q0.legs.length g, .int .i64 q0.turn.lo, .int .i64 q0.turn.hi, .slice d q0.buses.length i, .slice f q0.spares.length k, .int .i64 q0.unit, .int .i64 q0.gap, .int .i64 q0.fr, .int .i64 q0.to_]
set_option maxRecDepth 100000 in
set_option maxHeartbeats 4000000 in
theorem control_Route_check_1_ok (n : Nat) {h : Heap} {w : World} (hh : Has h w) (b : Bus) {cs_b : List Value} (hx_b : rep h b cs_b) (q0 : Route) {b_q0 : Nat} (hb_q0 : BoxS h b_q0 q0) {r : Bool} (H : control_Route_check_1 n b q0 = some r) :
  Calls Try.prog 75 #[.agg cs_b.toArray, .pointer (some ⟨b_q0, 0, none⟩)] w (Ret (fun h v => v = .bool r) h w) := by
 obtain ⟨_, _, rfl, rfl, ⟨_, _, rfl, rfl, rfl⟩⟩ := hx_b
 obtain ⟨_, hx_q0, hc_q0⟩ := id hb_q0
 obtain ⟨_, _, rfl, ⟨a, g, rfl, u⟩, ⟨_, _, rfl, ⟨_, _, rfl, rfl, rfl⟩, ⟨_, _, rfl, ⟨d, i, rfl, x⟩, ⟨_, _, rfl, ⟨f, k, rfl, y⟩, ⟨_, _, rfl, rfl, ⟨_, _, rfl, rfl, ⟨_, _, rfl, rfl, rfl⟩⟩⟩⟩⟩⟩⟩ := hx_q0
 refine enter' (e := [(b_q0, 0)]) 13 [.agg (K75c1 b), .c (.ptr 0 0)] Try.func75 rfl rfl rfl rfl fun t hk => ?_
 have hm := Mem.begin h w hh
 replace hm := hm.addPlc (o := 0) (cs := [.slice a q0.legs.length g, .int .i64 q0.turn.lo, .int .i64 q0.turn.hi, .slice d q0.buses.length i, .slice f q0.spares.length k, .int .i64 q0.unit, .int .i64 q0.gap, .int .i64 q0.fr, .int .i64 q0.to_]) (fun j c hj => by rw [Nat.zero_add]; exact hc_q0 j _ (map_get hj)) rfl (by kernel_rfl) (by kernel_rfl)
 replace hm : Mem ⟨w, h, noX⟩ h [(b_q0, 0)] [⟨(K75c2 a q0 g d i f k), none⟩] [] w := hm
 unfold control_Route_check_1 at H
 refine wp_seq (wp_region_from (wl fun K hK => ?_))
 refine wb (.agg (K75c1 b)) hk hm fun l ap au (ag : Kn 13 [(b_q0, 0), (l, 0)] [(tP 2 1 0), (tA 0 (K75c1 b)), (tP 1 0 0)] ap) (s : Mem ⟨w, h, noX⟩ h [(b_q0, 0), (l, 0)] [⟨(K75c2 a q0 g d i f k), none⟩, ⟨(K75c1 b), some 96⟩] [] au) => hK _ _ ?_
 refine Rk 1 1 [(tP 2 1 0), (tP 1 0 0)] ag s fun ax ah => ?_
 refine wf (wp_seq (wp_region_from (Rk 0 3 [(tI 6 b.stop), (tA 4 (K75c2 a q0 g d i f k)), (tP 2 1 0)] ah s fun ay ai => ?_)))
 obtain ⟨x7, ex7, H⟩ := bnd H
 refine wl fun K hK => ?_
 refine wc [.agg (K75c2 a q0 g d i f k), .c (.int .i64 b.stop)] ai s (control_Route_stop_ok n s.has q0 ((rep_pair (rep_slice u) (rep_pair (rep_pair rep_int rep_int) (rep_pair (rep_slice x) (rep_pair (rep_slice y) (rep_pair rep_int (rep_pair rep_int (rep_pair rep_int rep_int))))))) : rep h q0 _) b.stop ex7) fun a2 af a4 ad q m => ?_
 replace u := u.mono q
 replace x := x.mono q
 replace y := y.mono q
 replace hb_q0 := hb_q0.mono q
 obtain rfl := ad
 refine ⟨.one (.c (.bool x7)), rfl, fun aq (aj : Kn 13 [(b_q0, 0), (l, 0)] [(tB 7 x7), (tI 6 b.stop), (tA 4 (K75c2 a q0 g d i f k)), (tP 2 1 0)] aq) => hK _ _ ?_⟩
 refine Rk 4 1 [(tB 8 x7), (tP 2 1 0)] aj m fun ac z => ?_
 rcases Bool.eq_false_or_eq_true (x7) with p | p
 ·
  rw [p, cond_true] at H
  have ak : Kn 13 [(b_q0, 0), (l, 0)] [(tB 8 true), (tP 2 1 0)] ac := (z.setB 8 true (by rfl) p).kp
  refine Rk 5 2 [(tA 10 [.int .i64 b.tm.lo, .int .i64 b.tm.hi]), (tB 8 true)] ak m fun az aa => ?_
  obtain ⟨x11, ex11, H⟩ := bnd H
  refine wpFrom_loud _ rfl (wantedS_sound aa (by kernel_rfl)) fun K hK => ?_
  refine wc [.agg [.int .i64 b.tm.lo, .int .i64 b.tm.hi], .c (.int .i64 2000)] aa m (control_Range_upto_ok n m.has b.tm ((rep_pair rep_int rep_int) : rep af b.tm _) 2000 ex11) fun a3 av a5 ae aw ab => ?_
  obtain rfl := ae
  refine ⟨.one (.c (.bool x11)), rfl, fun ar (al : Kn 13 [(b_q0, 0), (l, 0)] [(tB 11 x11), (tA 10 [.int .i64 b.tm.lo, .int .i64 b.tm.hi]), (tB 8 true)] ar) => hK _ _ ?_⟩
  refine Rk 8 2 [(tB 3 x11)] al ab fun a0 am => ?_
  refine wf (wp_ret ?_)
  obtain rfl := Option.some.inj H
  exact rt (.one (.c (.bool x11))) am ab rfl
 ·
  rw [p, cond_false] at H
  have an : Kn 13 [(b_q0, 0), (l, 0)] [(tB 8 false), (tP 2 1 0)] ac := (z.setB 8 false (by rfl) p).kp
  refine Rk 5 5 [(tB 3 false)] an m fun a1 ao => ?_
  refine wf (wp_ret ?_)
  obtain rfl := Option.some.inj H
  exact rt (.one (.c (.bool false))) ao m rfl
abbrev K77c1 (a : Option Addr) (q0 : Route) (f : Nat) (b : Option Addr) (g : Nat) (d : Option Addr) (i : Nat) : List SC := [.slice a q0.legs.length f, .int .i64 q0.turn.lo, .int .i64 q0.turn.hi, .slice b q0.buses.length g, .slice d q0.spares.length i, .int .i64 q0.unit, .int .i64 q0.gap, .int .i64 q0.fr, .int .i64 q0.to_]
set_option maxRecDepth 100000 in
set_option maxHeartbeats 4000000 in
theorem control_Route_check_2_ok (n : Nat) {h : Heap} {w : World} (hh : Has h w) (s : Spare) {cs_s : List Value} (hx_s : rep h s cs_s) (q0 : Route) {b_q0 : Nat} (hb_q0 : BoxS h b_q0 q0) {r : Bool} (H : control_Route_check_2 n s q0 = some r) :
  Calls Try.prog 77 #[.agg cs_s.toArray, .pointer (some ⟨b_q0, 0, none⟩)] w (Ret (fun h v => v = .bool r) h w) := by
 obtain ⟨_, _, rfl, rfl, rfl⟩ := hx_s
 obtain ⟨_, hx_q0, hc_q0⟩ := id hb_q0
 obtain ⟨_, _, rfl, ⟨a, f, rfl, u⟩, ⟨_, _, rfl, ⟨_, _, rfl, rfl, rfl⟩, ⟨_, _, rfl, ⟨b, g, rfl, x⟩, ⟨_, _, rfl, ⟨d, i, rfl, y⟩, ⟨_, _, rfl, rfl, ⟨_, _, rfl, rfl, ⟨_, _, rfl, rfl, rfl⟩⟩⟩⟩⟩⟩⟩ := hx_q0
 refine enter' (e := [(b_q0, 0)]) 13 [.agg [.int .i64 s.stop, .int .i64 s.tm], .c (.ptr 0 0)] Try.func77 rfl rfl rfl rfl fun t hk => ?_
 have hm := Mem.begin h w hh
 replace hm := hm.addPlc (o := 0) (cs := [.slice a q0.legs.length f, .int .i64 q0.turn.lo, .int .i64 q0.turn.hi, .slice b q0.buses.length g, .slice d q0.spares.length i, .int .i64 q0.unit, .int .i64 q0.gap, .int .i64 q0.fr, .int .i64 q0.to_]) (fun j c hj => by rw [Nat.zero_add]; exact hc_q0 j _ (map_get hj)) rfl (by kernel_rfl) (by kernel_rfl)
 replace hm : Mem ⟨w, h, noX⟩ h [(b_q0, 0)] [⟨(K77c1 a q0 f b g d i), none⟩] [] w := hm
 unfold control_Route_check_2 at H
 refine wp_seq (wp_region_from (wl fun K hK => ?_))
 refine wb (.agg [.int .i64 s.stop, .int .i64 s.tm]) hk hm fun k ao ar (af : Kn 13 [(b_q0, 0), (k, 0)] [(tP 2 1 0), (tA 0 [.int .i64 s.stop, .int .i64 s.tm]), (tP 1 0 0)] ao) (q : Mem ⟨w, h, noX⟩ h [(b_q0, 0), (k, 0)] [⟨(K77c1 a q0 f b g d i), none⟩, ⟨[.int .i64 s.stop, .int .i64 s.tm], some 110⟩] [] ar) => hK _ _ ?_
 refine Rk 1 1 [(tP 2 1 0), (tP 1 0 0)] af q fun ax ag => ?_
 refine wf (wp_seq (wp_region_from (Rk 0 3 [(tI 6 s.stop), (tA 4 (K77c1 a q0 f b g d i)), (tP 2 1 0)] ag q fun ay ah => ?_)))
 obtain ⟨x7, ex7, H⟩ := bnd H
 refine wl fun K hK => ?_
 refine wc [.agg (K77c1 a q0 f b g d i), .c (.int .i64 s.stop)] ah q (control_Route_stop_ok n q.has q0 ((rep_pair (rep_slice u) (rep_pair (rep_pair rep_int rep_int) (rep_pair (rep_slice x) (rep_pair (rep_slice y) (rep_pair rep_int (rep_pair rep_int (rep_pair rep_int rep_int))))))) : rep h q0 _) s.stop ex7) fun a2 au a4 ad p l => ?_
 replace u := u.mono p
 replace x := x.mono p
 replace y := y.mono p
 replace hb_q0 := hb_q0.mono p
 obtain rfl := ad
 refine ⟨.one (.c (.bool x7)), rfl, fun ap (ai : Kn 13 [(b_q0, 0), (k, 0)] [(tB 7 x7), (tI 6 s.stop), (tA 4 (K77c1 a q0 f b g d i)), (tP 2 1 0)] ap) => hK _ _ ?_⟩
 refine Rk 4 1 [(tB 8 x7), (tP 2 1 0)] ai l fun ac z => ?_
 rcases Bool.eq_false_or_eq_true (x7) with m | m
 ·
  rw [m, cond_true] at H
  have aj : Kn 13 [(b_q0, 0), (k, 0)] [(tB 8 true), (tP 2 1 0)] ac := (z.setB 8 true (by rfl) m).kp
  refine Rk 5 2 [(tI 10 s.tm), (tB 8 true)] aj l fun az aa => ?_
  obtain ⟨x11, ex11, H⟩ := bnd H
  refine wpFrom_loud _ rfl (wantedS_sound aa (by kernel_rfl)) fun K hK => ?_
  refine wc [.c (.int .i64 s.tm)] aa l (control_minute_ok n l.has s.tm ex11) fun a3 av a5 ae aw ab => ?_
  obtain rfl := ae
  refine ⟨.one (.c (.bool x11)), rfl, fun aq (ak : Kn 13 [(b_q0, 0), (k, 0)] [(tB 11 x11), (tI 10 s.tm), (tB 8 true)] aq) => hK _ _ ?_⟩
  refine Rk 8 2 [(tB 3 x11)] ak ab fun a0 al => ?_
  refine wf (wp_ret ?_)
  obtain rfl := Option.some.inj H
  exact rt (.one (.c (.bool x11))) al ab rfl
 ·
  rw [m, cond_false] at H
  have am : Kn 13 [(b_q0, 0), (k, 0)] [(tB 8 false), (tP 2 1 0)] ac := (z.setB 8 false (by rfl) m).kp
  refine Rk 5 5 [(tB 3 false)] am l fun a1 an => ?_
  refine wf (wp_ret ?_)
  obtain rfl := Option.some.inj H
  exact rt (.one (.c (.bool false))) an l rfl
abbrev K110m1 (s : List Rg) (a_s : Option Addr) (c_s : Nat) (fn_f : Fn) (fa_f fc_f : Array Value) : TM := [(tI 7 ((s.length : Nat) : Int)), (tS 0 a_s s.length c_s), (1, .one (.c (.func fn_f fa_f fc_f)))]
set_option maxRecDepth 100000 in
set_option maxHeartbeats 4000000 in
theorem slices_IndexFunc_control_Range_control_Range_ok (n : Nat) {h : Heap} {w : World} (hh : Has h w) (s : List Rg) {a_s : Option Addr} {c_s : Nat} (hr_s : RepS h a_s c_s s) (f : Rg → Option Bool) {fn_f : Fn} {fa_f fc_f : Array Value} (hf_f : Fn1 h (.func fn_f fa_f fc_f) f) {r : Int} (H : slices_IndexFunc_control_Range_control_Range n s f = some r) :
  Calls Try.prog 110 #[.slice a_s s.length c_s, .func fn_f fa_f fc_f] w (Ret (fun h v => v = .int .i64 r) h w) := by
 refine enter 19 [.c (.slice a_s s.length c_s), .c (.func fn_f fa_f fc_f)] Try.func110 rfl rfl rfl rfl fun t hk => ?_
 have hm := Mem.begin h w hh
 unfold slices_IndexFunc_control_Range_control_Range at H
 refine wp_seq (wp_region_from (Rk 0 1 [(tS 0 a_s s.length c_s), (1, .one (.c (.func fn_f fa_f fc_f)))] hk hm fun a7 aj => ?_))
 refine wf (wp_seq (wp_seq (wp_region_from (Rk 0 3 ((tI 8 0) :: (K110m1 s a_s c_s fn_f fa_f fc_f)) aj hm fun bb an => ?_))))
 refine wf ?_
 obtain ⟨ac, aa, H⟩ := bnd H
 refine wp_mid' (fun a' w' => ∃ (ad : Unit) (z : Array Value) (l : Heap), a' = ⟨z, []⟩ ∧ Kn 19 [] [] z ∧ Mem ⟨w, h, noX⟩ l [] [] [] w' ∧ Heap.le h l ∧ ac = .go ad) ?_ ?_
 ·
  refine wp_block ?_
  refine wp_loop_n (fun a1 a' w' => ∃ (x_v10 : Int) (y : Array Value) (b : Heap), a' = ⟨y, []⟩ ∧ Kn 19 [] ((tI 8 x_v10) :: (K110m1 s a_s c_s fn_f fa_f fc_f)) y ∧ Mem ⟨w, h, noX⟩ b [] [] [] w' ∧ Heap.le h b ∧ slices_IndexFunc_control_Range_control_Range_l1 a1 s f x_v10 = some ac) n ?_ ?_
  ·
   exact Exists.intro 0 ⟨_, _, rfl, an.kp, hm, (Heap.le_refl _), aa⟩
  ·
   rintro x _ a3 ⟨x_v10, y, b, rfl, ai, d, g, a⟩
   clear aa
   obtain _ | x := x
   ·
    rw [slices_IndexFunc_control_Range_control_Range_l1] at a; cases a
   rw [slices_IndexFunc_control_Range_control_Range_l1] at a
   replace hr_s := hr_s.mono g
   replace hf_f := hf_f.mono g
   refine wp_seq (wp_region_from (Rk 0 1 ((tB 9 (decide (x_v10 < ((s.length : Nat) : Int)))) :: (tI 8 x_v10) :: (K110m1 s a_s c_s fn_f fa_f fc_f)) ai d fun a8 p => ?_))
   refine wf (wp_seq (wC (decide (x_v10 < ((s.length : Nat) : Int))) p (fun m => ?_) (fun m => ?_)))
   ·
    rw [m, cond_true] at a
    refine wp_skip (wp_seq (wp_block (wp_seq (wp_region_from (Rk 0 2 ((tI 5 x_v10) :: (tI 8 x_v10) :: (K110m1 s a_s c_s fn_f fa_f fc_f)) p d fun a9 ak => ?_)))))
    refine wf (wp_seq (wp_region_from (Rk 0 3 ((tI 13 x_v10) :: (tS 12 a_s s.length c_s) :: (11, .one (.c (.func fn_f fa_f fc_f))) :: (tI 5 x_v10) :: (tI 8 x_v10) :: (K110m1 s a_s c_s fn_f fa_f fc_f)) ak d fun ba al => ?_)))
    obtain ⟨x14, ex14, a⟩ := bnd a
    obtain ⟨ax, ay, a0⟩ := idx_some ex14
    obtain ⟨e, k, a4, ag, az, ah⟩ := hr_s.get (by decide) a0
    obtain ⟨_, _, rfl, rfl, rfl⟩ := az
    have u : Mem ⟨w, h, noX⟩ b [(e, k + (x_v10 : Int).toNat * 2)] [⟨[.int .i64 x14.lo, .int .i64 x14.hi], none⟩] [] a3 := d.addPlc (cs := [.int .i64 x14.lo, .int .i64 x14.hi]) (fun j c hj => ah j _ (map_get hj)) rfl (by kernel_rfl) (by kernel_rfl)
    refine R_index 3 (x_v10) rfl rfl (rfl) rfl (by decide) al (by rfl) (by rfl) (by rfl) ag (by rfl) ax ay (by kernel_rfl) fun a2 (am : Kn 19 [(e, k + (x_v10 : Int).toNat * 2)] ((tP 14 0 0) :: (tI 13 x_v10) :: (tS 12 a_s s.length c_s) :: (11, .one (.c (.func fn_f fa_f fc_f))) :: (tI 5 x_v10) :: (tI 8 x_v10) :: (K110m1 s a_s c_s fn_f fa_f fc_f)) a2) => ?_
    refine Rk 4 1 ((tA 15 [.int .i64 x14.lo, .int .i64 x14.hi]) :: (11, .one (.c (.func fn_f fa_f fc_f))) :: (tI 5 x_v10) :: (tI 8 x_v10) :: (K110m1 s a_s c_s fn_f fa_f fc_f)) am u fun bc ao => ?_
    obtain ⟨x16, ex16, a⟩ := bnd a
    refine wl fun K hK => ?_
    refine wp_callV (.func fn_f fa_f fc_f) [.agg [.int .i64 x14.lo, .int .i64 x14.hi]] _ ao u rfl rfl (by decide) (by rfl) (by rfl) rfl (hf_f _ _ (Heap.le_refl _) u.has x14 _ ((rep_pair rep_int rep_int) : rep b x14 _) _ ex16) fun bg a5 bh af aw i => ?_
    obtain rfl := af
    refine ⟨.one (.c (.bool x16)), rfl, fun ae (ap : Kn 19 [(e, k + (x_v10 : Int).toNat * 2)] ((tB 16 x16) :: (tA 15 [.int .i64 x14.lo, .int .i64 x14.hi]) :: (11, .one (.c (.func fn_f fa_f fc_f))) :: (tI 5 x_v10) :: (tI 8 x_v10) :: (K110m1 s a_s c_s fn_f fa_f fc_f)) ae) => hK _ _ ?_⟩
    have q : Kn 19 [(e, k + (x_v10 : Int).toNat * 2)] ((tB 16 x16) :: (tI 5 x_v10) :: (tI 8 x_v10) :: (K110m1 s a_s c_s fn_f fa_f fc_f)) ae := ap.kp
    refine wf (wC (x16) q (fun o => ?_) (fun o => ?_))
    ·
     rw [o, cond_true] at a
     refine wp_seq (wp_region_from (Rk 0 2 [(tI 4 x_v10)] q i fun bd aq => ?_))
     refine wf (wp_ret ?_)
     obtain rfl := Option.some.inj a
     obtain rfl := Option.some.inj H
     exact rt (.one (.c (.int .i64 x_v10))) aq i rfl
    ·
     rw [o, cond_false] at a
     refine wp_skip (wp_region_from (Rk 0 2 ((tI 8 (IntKind.i64.wrap (x_v10 + 1))) :: (K110m1 s a_s c_s fn_f fa_f fc_f)) q i fun be ar => ?_))
     refine wf ?_
     exact Exists.intro x ⟨Nat.lt_succ_self _, Exists.intro (IntKind.i64.wrap (x_v10 + 1)) ⟨_, _, rfl, ((ar.keep [8, 7, 0, 1] (by rfl)).cut 0 (by kernel_rfl)), (i.cutPl 0 (by kernel_rfl)), (Heap.le_trans g aw), a⟩⟩
   ·
    rw [m, cond_false] at a
    refine wp_exit ?_
    obtain rfl := Option.some.inj a
    exact Exists.intro () ⟨_, _, rfl, p.kp, d, g, rfl⟩
 ·
  rintro _ bi ⟨ad, z, l, rfl, au, ab, a6, rfl⟩
  rw [Ex.bind_go] at H
  refine wp_seq (wp_region_from (Rk 0 1 [(tI 4 (-1))] au ab fun bf av => ?_))
  refine wf (wp_ret ?_)
  obtain rfl := Option.some.inj H
  exact rt (.one (.c (.int .i64 (-1)))) av ab rfl
abbrev K111c1 (x14 : Bus) : List SC := [.int .i64 x14.stop, .int .i64 x14.tm.lo, .int .i64 x14.tm.hi]
abbrev K111m2 (s : List Bus) (a_s : Option Addr) (c_s : Nat) (fn_f : Fn) (fa_f fc_f : Array Value) : TM := [(tI 7 ((s.length : Nat) : Int)), (tS 0 a_s s.length c_s), (1, .one (.c (.func fn_f fa_f fc_f)))]
set_option maxRecDepth 100000 in
set_option maxHeartbeats 4000000 in
theorem slices_IndexFunc_control_Bus_control_Bus_ok (n : Nat) {h : Heap} {w : World} (hh : Has h w) (s : List Bus) {a_s : Option Addr} {c_s : Nat} (hr_s : RepS h a_s c_s s) (f : Bus → Option Bool) {fn_f : Fn} {fa_f fc_f : Array Value} (hf_f : Fn2 h (.func fn_f fa_f fc_f) f) {r : Int} (H : slices_IndexFunc_control_Bus_control_Bus n s f = some r) :
  Calls Try.prog 111 #[.slice a_s s.length c_s, .func fn_f fa_f fc_f] w (Ret (fun h v => v = .int .i64 r) h w) := by
 refine enter 19 [.c (.slice a_s s.length c_s), .c (.func fn_f fa_f fc_f)] Try.func111 rfl rfl rfl rfl fun t hk => ?_
 have hm := Mem.begin h w hh
 unfold slices_IndexFunc_control_Bus_control_Bus at H
 refine wp_seq (wp_region_from (Rk 0 1 [(tS 0 a_s s.length c_s), (1, .one (.c (.func fn_f fa_f fc_f)))] hk hm fun a7 aj => ?_))
 refine wf (wp_seq (wp_seq (wp_region_from (Rk 0 3 ((tI 8 0) :: (K111m2 s a_s c_s fn_f fa_f fc_f)) aj hm fun bb an => ?_))))
 refine wf ?_
 obtain ⟨ac, aa, H⟩ := bnd H
 refine wp_mid' (fun a' w' => ∃ (ad : Unit) (z : Array Value) (l : Heap), a' = ⟨z, []⟩ ∧ Kn 19 [] [] z ∧ Mem ⟨w, h, noX⟩ l [] [] [] w' ∧ Heap.le h l ∧ ac = .go ad) ?_ ?_
 ·
  refine wp_block ?_
  refine wp_loop_n (fun a1 a' w' => ∃ (x_v10 : Int) (y : Array Value) (b : Heap), a' = ⟨y, []⟩ ∧ Kn 19 [] ((tI 8 x_v10) :: (K111m2 s a_s c_s fn_f fa_f fc_f)) y ∧ Mem ⟨w, h, noX⟩ b [] [] [] w' ∧ Heap.le h b ∧ slices_IndexFunc_control_Bus_control_Bus_l1 a1 s f x_v10 = some ac) n ?_ ?_
  ·
   exact Exists.intro 0 ⟨_, _, rfl, an.kp, hm, (Heap.le_refl _), aa⟩
  ·
   rintro x _ a3 ⟨x_v10, y, b, rfl, ai, d, g, a⟩
   clear aa
   obtain _ | x := x
   ·
    rw [slices_IndexFunc_control_Bus_control_Bus_l1] at a; cases a
   rw [slices_IndexFunc_control_Bus_control_Bus_l1] at a
   replace hr_s := hr_s.mono g
   replace hf_f := hf_f.mono g
   refine wp_seq (wp_region_from (Rk 0 1 ((tB 9 (decide (x_v10 < ((s.length : Nat) : Int)))) :: (tI 8 x_v10) :: (K111m2 s a_s c_s fn_f fa_f fc_f)) ai d fun a8 p => ?_))
   refine wf (wp_seq (wC (decide (x_v10 < ((s.length : Nat) : Int))) p (fun m => ?_) (fun m => ?_)))
   ·
    rw [m, cond_true] at a
    refine wp_skip (wp_seq (wp_block (wp_seq (wp_region_from (Rk 0 2 ((tI 5 x_v10) :: (tI 8 x_v10) :: (K111m2 s a_s c_s fn_f fa_f fc_f)) p d fun a9 ak => ?_)))))
    refine wf (wp_seq (wp_region_from (Rk 0 3 ((tI 13 x_v10) :: (tS 12 a_s s.length c_s) :: (11, .one (.c (.func fn_f fa_f fc_f))) :: (tI 5 x_v10) :: (tI 8 x_v10) :: (K111m2 s a_s c_s fn_f fa_f fc_f)) ak d fun ba al => ?_)))
    obtain ⟨x14, ex14, a⟩ := bnd a
    obtain ⟨ax, ay, a0⟩ := idx_some ex14
    obtain ⟨e, k, a4, ag, az, ah⟩ := hr_s.get (by decide) a0
    obtain ⟨_, _, rfl, rfl, ⟨_, _, rfl, rfl, rfl⟩⟩ := az
    have u : Mem ⟨w, h, noX⟩ b [(e, k + (x_v10 : Int).toNat * 3)] [⟨(K111c1 x14), none⟩] [] a3 := d.addPlc (cs := (K111c1 x14)) (fun j c hj => ah j _ (map_get hj)) rfl (by kernel_rfl) (by kernel_rfl)
    refine R_index 3 (x_v10) rfl rfl (rfl) rfl (by decide) al (by rfl) (by rfl) (by rfl) ag (by rfl) ax ay (by kernel_rfl) fun a2 (am : Kn 19 [(e, k + (x_v10 : Int).toNat * 3)] ((tP 14 0 0) :: (tI 13 x_v10) :: (tS 12 a_s s.length c_s) :: (11, .one (.c (.func fn_f fa_f fc_f))) :: (tI 5 x_v10) :: (tI 8 x_v10) :: (K111m2 s a_s c_s fn_f fa_f fc_f)) a2) => ?_
    refine Rk 4 1 ((tA 15 (K111c1 x14)) :: (11, .one (.c (.func fn_f fa_f fc_f))) :: (tI 5 x_v10) :: (tI 8 x_v10) :: (K111m2 s a_s c_s fn_f fa_f fc_f)) am u fun bc ao => ?_
    obtain ⟨x16, ex16, a⟩ := bnd a
    refine wl fun K hK => ?_
    refine wp_callV (.func fn_f fa_f fc_f) [.agg (K111c1 x14)] _ ao u rfl rfl (by decide) (by rfl) (by rfl) rfl (hf_f _ _ (Heap.le_refl _) u.has x14 _ ((rep_pair rep_int (rep_pair rep_int rep_int)) : rep b x14 _) _ ex16) fun bg a5 bh af aw i => ?_
    obtain rfl := af
    refine ⟨.one (.c (.bool x16)), rfl, fun ae (ap : Kn 19 [(e, k + (x_v10 : Int).toNat * 3)] ((tB 16 x16) :: (tA 15 (K111c1 x14)) :: (11, .one (.c (.func fn_f fa_f fc_f))) :: (tI 5 x_v10) :: (tI 8 x_v10) :: (K111m2 s a_s c_s fn_f fa_f fc_f)) ae) => hK _ _ ?_⟩
    have q : Kn 19 [(e, k + (x_v10 : Int).toNat * 3)] ((tB 16 x16) :: (tI 5 x_v10) :: (tI 8 x_v10) :: (K111m2 s a_s c_s fn_f fa_f fc_f)) ae := ap.kp
    refine wf (wC (x16) q (fun o => ?_) (fun o => ?_))
    ·
     rw [o, cond_true] at a
     refine wp_seq (wp_region_from (Rk 0 2 [(tI 4 x_v10)] q i fun bd aq => ?_))
     refine wf (wp_ret ?_)
     obtain rfl := Option.some.inj a
     obtain rfl := Option.some.inj H
     exact rt (.one (.c (.int .i64 x_v10))) aq i rfl
    ·
     rw [o, cond_false] at a
     refine wp_skip (wp_region_from (Rk 0 2 ((tI 8 (IntKind.i64.wrap (x_v10 + 1))) :: (K111m2 s a_s c_s fn_f fa_f fc_f)) q i fun be ar => ?_))
     refine wf ?_
     exact Exists.intro x ⟨Nat.lt_succ_self _, Exists.intro (IntKind.i64.wrap (x_v10 + 1)) ⟨_, _, rfl, ((ar.keep [8, 7, 0, 1] (by rfl)).cut 0 (by kernel_rfl)), (i.cutPl 0 (by kernel_rfl)), (Heap.le_trans g aw), a⟩⟩
   ·
    rw [m, cond_false] at a
    refine wp_exit ?_
    obtain rfl := Option.some.inj a
    exact Exists.intro () ⟨_, _, rfl, p.kp, d, g, rfl⟩
 ·
  rintro _ bi ⟨ad, z, l, rfl, au, ab, a6, rfl⟩
  rw [Ex.bind_go] at H
  refine wp_seq (wp_region_from (Rk 0 1 [(tI 4 (-1))] au ab fun bf av => ?_))
  refine wf (wp_ret ?_)
  obtain rfl := Option.some.inj H
  exact rt (.one (.c (.int .i64 (-1)))) av ab rfl
abbrev K112m1 (s : List Spare) (a_s : Option Addr) (c_s : Nat) (fn_f : Fn) (fa_f fc_f : Array Value) : TM := [(tI 7 ((s.length : Nat) : Int)), (tS 0 a_s s.length c_s), (1, .one (.c (.func fn_f fa_f fc_f)))]
set_option maxRecDepth 100000 in
set_option maxHeartbeats 4000000 in
theorem slices_IndexFunc_control_Spare_control_Spare_ok (n : Nat) {h : Heap} {w : World} (hh : Has h w) (s : List Spare) {a_s : Option Addr} {c_s : Nat} (hr_s : RepS h a_s c_s s) (f : Spare → Option Bool) {fn_f : Fn} {fa_f fc_f : Array Value} (hf_f : Fn3 h (.func fn_f fa_f fc_f) f) {r : Int} (H : slices_IndexFunc_control_Spare_control_Spare n s f = some r) :
  Calls Try.prog 112 #[.slice a_s s.length c_s, .func fn_f fa_f fc_f] w (Ret (fun h v => v = .int .i64 r) h w) := by
 refine enter 19 [.c (.slice a_s s.length c_s), .c (.func fn_f fa_f fc_f)] Try.func112 rfl rfl rfl rfl fun t hk => ?_
 have hm := Mem.begin h w hh
 unfold slices_IndexFunc_control_Spare_control_Spare at H
 refine wp_seq (wp_region_from (Rk 0 1 [(tS 0 a_s s.length c_s), (1, .one (.c (.func fn_f fa_f fc_f)))] hk hm fun a7 aj => ?_))
 refine wf (wp_seq (wp_seq (wp_region_from (Rk 0 3 ((tI 8 0) :: (K112m1 s a_s c_s fn_f fa_f fc_f)) aj hm fun bb an => ?_))))
 refine wf ?_
 obtain ⟨ac, aa, H⟩ := bnd H
 refine wp_mid' (fun a' w' => ∃ (ad : Unit) (z : Array Value) (l : Heap), a' = ⟨z, []⟩ ∧ Kn 19 [] [] z ∧ Mem ⟨w, h, noX⟩ l [] [] [] w' ∧ Heap.le h l ∧ ac = .go ad) ?_ ?_
 ·
  refine wp_block ?_
  refine wp_loop_n (fun a1 a' w' => ∃ (x_v10 : Int) (y : Array Value) (b : Heap), a' = ⟨y, []⟩ ∧ Kn 19 [] ((tI 8 x_v10) :: (K112m1 s a_s c_s fn_f fa_f fc_f)) y ∧ Mem ⟨w, h, noX⟩ b [] [] [] w' ∧ Heap.le h b ∧ slices_IndexFunc_control_Spare_control_Spare_l1 a1 s f x_v10 = some ac) n ?_ ?_
  ·
   exact Exists.intro 0 ⟨_, _, rfl, an.kp, hm, (Heap.le_refl _), aa⟩
  ·
   rintro x _ a3 ⟨x_v10, y, b, rfl, ai, d, g, a⟩
   clear aa
   obtain _ | x := x
   ·
    rw [slices_IndexFunc_control_Spare_control_Spare_l1] at a; cases a
   rw [slices_IndexFunc_control_Spare_control_Spare_l1] at a
   replace hr_s := hr_s.mono g
   replace hf_f := hf_f.mono g
   refine wp_seq (wp_region_from (Rk 0 1 ((tB 9 (decide (x_v10 < ((s.length : Nat) : Int)))) :: (tI 8 x_v10) :: (K112m1 s a_s c_s fn_f fa_f fc_f)) ai d fun a8 p => ?_))
   refine wf (wp_seq (wC (decide (x_v10 < ((s.length : Nat) : Int))) p (fun m => ?_) (fun m => ?_)))
   ·
    rw [m, cond_true] at a
    refine wp_skip (wp_seq (wp_block (wp_seq (wp_region_from (Rk 0 2 ((tI 5 x_v10) :: (tI 8 x_v10) :: (K112m1 s a_s c_s fn_f fa_f fc_f)) p d fun a9 ak => ?_)))))
    refine wf (wp_seq (wp_region_from (Rk 0 3 ((tI 13 x_v10) :: (tS 12 a_s s.length c_s) :: (11, .one (.c (.func fn_f fa_f fc_f))) :: (tI 5 x_v10) :: (tI 8 x_v10) :: (K112m1 s a_s c_s fn_f fa_f fc_f)) ak d fun ba al => ?_)))
    obtain ⟨x14, ex14, a⟩ := bnd a
    obtain ⟨ax, ay, a0⟩ := idx_some ex14
    obtain ⟨e, k, a4, ag, az, ah⟩ := hr_s.get (by decide) a0
    obtain ⟨_, _, rfl, rfl, rfl⟩ := az
    have u : Mem ⟨w, h, noX⟩ b [(e, k + (x_v10 : Int).toNat * 2)] [⟨[.int .i64 x14.stop, .int .i64 x14.tm], none⟩] [] a3 := d.addPlc (cs := [.int .i64 x14.stop, .int .i64 x14.tm]) (fun j c hj => ah j _ (map_get hj)) rfl (by kernel_rfl) (by kernel_rfl)
    refine R_index 3 (x_v10) rfl rfl (rfl) rfl (by decide) al (by rfl) (by rfl) (by rfl) ag (by rfl) ax ay (by kernel_rfl) fun a2 (am : Kn 19 [(e, k + (x_v10 : Int).toNat * 2)] ((tP 14 0 0) :: (tI 13 x_v10) :: (tS 12 a_s s.length c_s) :: (11, .one (.c (.func fn_f fa_f fc_f))) :: (tI 5 x_v10) :: (tI 8 x_v10) :: (K112m1 s a_s c_s fn_f fa_f fc_f)) a2) => ?_
    refine Rk 4 1 ((tA 15 [.int .i64 x14.stop, .int .i64 x14.tm]) :: (11, .one (.c (.func fn_f fa_f fc_f))) :: (tI 5 x_v10) :: (tI 8 x_v10) :: (K112m1 s a_s c_s fn_f fa_f fc_f)) am u fun bc ao => ?_
    obtain ⟨x16, ex16, a⟩ := bnd a
    refine wl fun K hK => ?_
    refine wp_callV (.func fn_f fa_f fc_f) [.agg [.int .i64 x14.stop, .int .i64 x14.tm]] _ ao u rfl rfl (by decide) (by rfl) (by rfl) rfl (hf_f _ _ (Heap.le_refl _) u.has x14 _ ((rep_pair rep_int rep_int) : rep b x14 _) _ ex16) fun bg a5 bh af aw i => ?_
    obtain rfl := af
    refine ⟨.one (.c (.bool x16)), rfl, fun ae (ap : Kn 19 [(e, k + (x_v10 : Int).toNat * 2)] ((tB 16 x16) :: (tA 15 [.int .i64 x14.stop, .int .i64 x14.tm]) :: (11, .one (.c (.func fn_f fa_f fc_f))) :: (tI 5 x_v10) :: (tI 8 x_v10) :: (K112m1 s a_s c_s fn_f fa_f fc_f)) ae) => hK _ _ ?_⟩
    have q : Kn 19 [(e, k + (x_v10 : Int).toNat * 2)] ((tB 16 x16) :: (tI 5 x_v10) :: (tI 8 x_v10) :: (K112m1 s a_s c_s fn_f fa_f fc_f)) ae := ap.kp
    refine wf (wC (x16) q (fun o => ?_) (fun o => ?_))
    ·
     rw [o, cond_true] at a
     refine wp_seq (wp_region_from (Rk 0 2 [(tI 4 x_v10)] q i fun bd aq => ?_))
     refine wf (wp_ret ?_)
     obtain rfl := Option.some.inj a
     obtain rfl := Option.some.inj H
     exact rt (.one (.c (.int .i64 x_v10))) aq i rfl
    ·
     rw [o, cond_false] at a
     refine wp_skip (wp_region_from (Rk 0 2 ((tI 8 (IntKind.i64.wrap (x_v10 + 1))) :: (K112m1 s a_s c_s fn_f fa_f fc_f)) q i fun be ar => ?_))
     refine wf ?_
     exact Exists.intro x ⟨Nat.lt_succ_self _, Exists.intro (IntKind.i64.wrap (x_v10 + 1)) ⟨_, _, rfl, ((ar.keep [8, 7, 0, 1] (by rfl)).cut 0 (by kernel_rfl)), (i.cutPl 0 (by kernel_rfl)), (Heap.le_trans g aw), a⟩⟩
   ·
    rw [m, cond_false] at a
    refine wp_exit ?_
    obtain rfl := Option.some.inj a
    exact Exists.intro () ⟨_, _, rfl, p.kp, d, g, rfl⟩
 ·
  rintro _ bi ⟨ad, z, l, rfl, au, ab, a6, rfl⟩
  rw [Ex.bind_go] at H
  refine wp_seq (wp_region_from (Rk 0 1 [(tI 4 (-1))] au ab fun bf av => ?_))
  refine wf (wp_ret ?_)
  obtain rfl := Option.some.inj H
  exact rt (.one (.c (.int .i64 (-1)))) av ab rfl
set_option maxRecDepth 100000 in
set_option maxHeartbeats 4000000 in
theorem slices_ContainsFunc_control_Range_control_Range_ok (n : Nat) {h : Heap} {w : World} (hh : Has h w) (s : List Rg) {a_s : Option Addr} {c_s : Nat} (hr_s : RepS h a_s c_s s) (f : Rg → Option Bool) {fn_f : Fn} {fa_f fc_f : Array Value} (hf_f : Fn1 h (.func fn_f fa_f fc_f) f) {r : Bool} (H : slices_ContainsFunc_control_Range_control_Range n s f = some r) :
  Calls Try.prog 100 #[.slice a_s s.length c_s, .func fn_f fa_f fc_f] w (Ret (fun h v => v = .bool r) h w) := by
 refine enter 9 [.c (.slice a_s s.length c_s), .c (.func fn_f fa_f fc_f)] Try.func100 rfl rfl rfl rfl fun t hk => ?_
 have hm := Mem.begin h w hh
 unfold slices_ContainsFunc_control_Range_control_Range at H
 refine wp_seq (wp_region_from (Rk 0 1 [(tS 0 a_s s.length c_s), (1, .one (.c (.func fn_f fa_f fc_f)))] hk hm fun m g => ?_))
 refine wf (wp_seq (wp_region_from (Rk 0 2 [(6, .one (.c (.func fn_f fa_f fc_f))), (tS 5 a_s s.length c_s)] g hm fun p i => ?_)))
 obtain ⟨x7, ex7, H⟩ := bnd H
 refine wl fun K hK => ?_
 refine wc [.c (.slice a_s s.length c_s), .c (.func fn_f fa_f fc_f)] i hm (slices_IndexFunc_control_Range_control_Range_ok n hm.has s hr_s f hf_f ex7) fun q k u b l a => ?_
 obtain rfl := b
 refine ⟨.one (.c (.int .i64 x7)), rfl, fun j (d : Kn 9 [] [(tI 7 x7), (6, .one (.c (.func fn_f fa_f fc_f))), (tS 5 a_s s.length c_s)] j) => hK _ _ ?_⟩
 refine Rk 3 2 [(tB 4 (decide (x7 ≥ 0)))] d a fun o e => ?_
 refine wf (wp_ret ?_)
 obtain rfl := Option.some.inj H
 exact rt (.one (.c (.bool (decide (x7 ≥ 0))))) e a rfl
set_option maxRecDepth 100000 in
set_option maxHeartbeats 4000000 in
theorem slices_ContainsFunc_control_Bus_control_Bus_ok (n : Nat) {h : Heap} {w : World} (hh : Has h w) (s : List Bus) {a_s : Option Addr} {c_s : Nat} (hr_s : RepS h a_s c_s s) (f : Bus → Option Bool) {fn_f : Fn} {fa_f fc_f : Array Value} (hf_f : Fn2 h (.func fn_f fa_f fc_f) f) {r : Bool} (H : slices_ContainsFunc_control_Bus_control_Bus n s f = some r) :
  Calls Try.prog 102 #[.slice a_s s.length c_s, .func fn_f fa_f fc_f] w (Ret (fun h v => v = .bool r) h w) := by
 refine enter 9 [.c (.slice a_s s.length c_s), .c (.func fn_f fa_f fc_f)] Try.func102 rfl rfl rfl rfl fun t hk => ?_
 have hm := Mem.begin h w hh
 unfold slices_ContainsFunc_control_Bus_control_Bus at H
 refine wp_seq (wp_region_from (Rk 0 1 [(tS 0 a_s s.length c_s), (1, .one (.c (.func fn_f fa_f fc_f)))] hk hm fun m g => ?_))
 refine wf (wp_seq (wp_region_from (Rk 0 2 [(6, .one (.c (.func fn_f fa_f fc_f))), (tS 5 a_s s.length c_s)] g hm fun p i => ?_)))
 obtain ⟨x7, ex7, H⟩ := bnd H
 refine wl fun K hK => ?_
 refine wc [.c (.slice a_s s.length c_s), .c (.func fn_f fa_f fc_f)] i hm (slices_IndexFunc_control_Bus_control_Bus_ok n hm.has s hr_s f hf_f ex7) fun q k u b l a => ?_
 obtain rfl := b
 refine ⟨.one (.c (.int .i64 x7)), rfl, fun j (d : Kn 9 [] [(tI 7 x7), (6, .one (.c (.func fn_f fa_f fc_f))), (tS 5 a_s s.length c_s)] j) => hK _ _ ?_⟩
 refine Rk 3 2 [(tB 4 (decide (x7 ≥ 0)))] d a fun o e => ?_
 refine wf (wp_ret ?_)
 obtain rfl := Option.some.inj H
 exact rt (.one (.c (.bool (decide (x7 ≥ 0))))) e a rfl
set_option maxRecDepth 100000 in
set_option maxHeartbeats 4000000 in
theorem slices_ContainsFunc_control_Spare_control_Spare_ok (n : Nat) {h : Heap} {w : World} (hh : Has h w) (s : List Spare) {a_s : Option Addr} {c_s : Nat} (hr_s : RepS h a_s c_s s) (f : Spare → Option Bool) {fn_f : Fn} {fa_f fc_f : Array Value} (hf_f : Fn3 h (.func fn_f fa_f fc_f) f) {r : Bool} (H : slices_ContainsFunc_control_Spare_control_Spare n s f = some r) :
  Calls Try.prog 104 #[.slice a_s s.length c_s, .func fn_f fa_f fc_f] w (Ret (fun h v => v = .bool r) h w) := by
 refine enter 9 [.c (.slice a_s s.length c_s), .c (.func fn_f fa_f fc_f)] Try.func104 rfl rfl rfl rfl fun t hk => ?_
 have hm := Mem.begin h w hh
 unfold slices_ContainsFunc_control_Spare_control_Spare at H
 refine wp_seq (wp_region_from (Rk 0 1 [(tS 0 a_s s.length c_s), (1, .one (.c (.func fn_f fa_f fc_f)))] hk hm fun m g => ?_))
 refine wf (wp_seq (wp_region_from (Rk 0 2 [(6, .one (.c (.func fn_f fa_f fc_f))), (tS 5 a_s s.length c_s)] g hm fun p i => ?_)))
 obtain ⟨x7, ex7, H⟩ := bnd H
 refine wl fun K hK => ?_
 refine wc [.c (.slice a_s s.length c_s), .c (.func fn_f fa_f fc_f)] i hm (slices_IndexFunc_control_Spare_control_Spare_ok n hm.has s hr_s f hf_f ex7) fun q k u b l a => ?_
 obtain rfl := b
 refine ⟨.one (.c (.int .i64 x7)), rfl, fun j (d : Kn 9 [] [(tI 7 x7), (6, .one (.c (.func fn_f fa_f fc_f))), (tS 5 a_s s.length c_s)] j) => hK _ _ ?_⟩
 refine Rk 3 2 [(tB 4 (decide (x7 ≥ 0)))] d a fun o e => ?_
 refine wf (wp_ret ?_)
 obtain rfl := Option.some.inj H
 exact rt (.one (.c (.bool (decide (x7 ≥ 0))))) e a rfl
set_option maxRecDepth 100000 in
set_option maxHeartbeats 4000000 in
theorem control_all_control_Range_1_ok (n : Nat) {h : Heap} {w : World} (hh : Has h w) (x : Rg) {cs_x : List Value} (hx_x : rep h x cs_x) (q0 : Rg → Option Bool) {b_q0 : Nat} (hb_q0 : BoxS h b_q0 q0) {r : Bool} (H : control_all_control_Range_1 n x q0 = some r) :
  Calls Try.prog 101 #[.agg cs_x.toArray, .pointer (some ⟨b_q0, 0, none⟩)] w (Ret (fun h v => v = .bool r) h w) := by
 obtain ⟨_, _, rfl, rfl, rfl⟩ := hx_x
 obtain ⟨_, hx_q0, hc_q0⟩ := id hb_q0
 obtain ⟨d, a, b, rfl, l⟩ := hx_q0
 refine enter' (e := [(b_q0, 0)]) 8 [.agg [.int .i64 x.lo, .int .i64 x.hi], .c (.ptr 0 0)] Try.func101 rfl rfl rfl rfl fun t hk => ?_
 have hm := Mem.begin h w hh
 replace hm := hm.addPlc (o := 0) (cs := [.func d a b]) (fun j c hj => by rw [Nat.zero_add]; exact hc_q0 j _ (map_get hj)) rfl (by kernel_rfl) (by kernel_rfl)
 replace hm : Mem ⟨w, h, noX⟩ h [(b_q0, 0)] [⟨[.func d a b], none⟩] [] w := hm
 unfold control_all_control_Range_1 at H
 refine wp_seq (wp_region_from (wl fun K hK => ?_))
 refine wb (.agg [.int .i64 x.lo, .int .i64 x.hi]) hk hm fun g z aa (u : Kn 8 [(b_q0, 0), (g, 0)] [(tP 2 1 0), (tA 0 [.int .i64 x.lo, .int .i64 x.hi]), (tP 1 0 0)] z) (f : Mem ⟨w, h, noX⟩ h [(b_q0, 0), (g, 0)] [⟨[.func d a b], none⟩, ⟨[.int .i64 x.lo, .int .i64 x.hi], some 39⟩] [] aa) => hK _ _ ?_
 refine Rk 1 1 [(tP 2 1 0), (tP 1 0 0)] u f fun ad m => ?_
 refine wf (wp_seq (wp_region_from (Rk 0 2 [(tA 5 [.int .i64 x.lo, .int .i64 x.hi]), (4, .one (.c (.func d a b)))] m f fun ae p => ?_)))
 obtain ⟨x6, ex6, H⟩ := bnd H
 refine wl fun K hK => ?_
 refine wp_callV (.func d a b) [.agg [.int .i64 x.lo, .int .i64 x.hi]] _ p f rfl rfl (by decide) (by rfl) (by rfl) rfl (l _ _ (Heap.le_refl _) f.has x _ ((rep_pair rep_int rep_int) : rep h x _) _ ex6) fun ag ab ah k ac i => ?_
 obtain rfl := k
 refine ⟨.one (.c (.bool x6)), rfl, fun y (q : Kn 8 [(b_q0, 0), (g, 0)] [(tB 6 x6), (tA 5 [.int .i64 x.lo, .int .i64 x.hi]), (4, .one (.c (.func d a b)))] y) => hK _ _ ?_⟩
 refine Rk 3 2 [(tB 3 (!x6))] q i fun af s => ?_
 refine wf (wp_ret ?_)
 obtain rfl := Option.some.inj H
 exact rt (.one (.c (.bool (!x6)))) s i rfl
abbrev K103c1 (x : Bus) : List SC := [.int .i64 x.stop, .int .i64 x.tm.lo, .int .i64 x.tm.hi]
set_option maxRecDepth 100000 in
set_option maxHeartbeats 4000000 in
theorem control_all_control_Bus_1_ok (n : Nat) {h : Heap} {w : World} (hh : Has h w) (x : Bus) {cs_x : List Value} (hx_x : rep h x cs_x) (q0 : Bus → Option Bool) {b_q0 : Nat} (hb_q0 : BoxS h b_q0 q0) {r : Bool} (H : control_all_control_Bus_1 n x q0 = some r) :
  Calls Try.prog 103 #[.agg cs_x.toArray, .pointer (some ⟨b_q0, 0, none⟩)] w (Ret (fun h v => v = .bool r) h w) := by
 obtain ⟨_, _, rfl, rfl, ⟨_, _, rfl, rfl, rfl⟩⟩ := hx_x
 obtain ⟨_, hx_q0, hc_q0⟩ := id hb_q0
 obtain ⟨d, a, b, rfl, l⟩ := hx_q0
 refine enter' (e := [(b_q0, 0)]) 8 [.agg (K103c1 x), .c (.ptr 0 0)] Try.func103 rfl rfl rfl rfl fun t hk => ?_
 have hm := Mem.begin h w hh
 replace hm := hm.addPlc (o := 0) (cs := [.func d a b]) (fun j c hj => by rw [Nat.zero_add]; exact hc_q0 j _ (map_get hj)) rfl (by kernel_rfl) (by kernel_rfl)
 replace hm : Mem ⟨w, h, noX⟩ h [(b_q0, 0)] [⟨[.func d a b], none⟩] [] w := hm
 unfold control_all_control_Bus_1 at H
 refine wp_seq (wp_region_from (wl fun K hK => ?_))
 refine wb (.agg (K103c1 x)) hk hm fun g z aa (u : Kn 8 [(b_q0, 0), (g, 0)] [(tP 2 1 0), (tA 0 (K103c1 x)), (tP 1 0 0)] z) (f : Mem ⟨w, h, noX⟩ h [(b_q0, 0), (g, 0)] [⟨[.func d a b], none⟩, ⟨(K103c1 x), some 96⟩] [] aa) => hK _ _ ?_
 refine Rk 1 1 [(tP 2 1 0), (tP 1 0 0)] u f fun ad m => ?_
 refine wf (wp_seq (wp_region_from (Rk 0 2 [(tA 5 (K103c1 x)), (4, .one (.c (.func d a b)))] m f fun ae p => ?_)))
 obtain ⟨x6, ex6, H⟩ := bnd H
 refine wl fun K hK => ?_
 refine wp_callV (.func d a b) [.agg (K103c1 x)] _ p f rfl rfl (by decide) (by rfl) (by rfl) rfl (l _ _ (Heap.le_refl _) f.has x _ ((rep_pair rep_int (rep_pair rep_int rep_int)) : rep h x _) _ ex6) fun ag ab ah k ac i => ?_
 obtain rfl := k
 refine ⟨.one (.c (.bool x6)), rfl, fun y (q : Kn 8 [(b_q0, 0), (g, 0)] [(tB 6 x6), (tA 5 (K103c1 x)), (4, .one (.c (.func d a b)))] y) => hK _ _ ?_⟩
 refine Rk 3 2 [(tB 3 (!x6))] q i fun af s => ?_
 refine wf (wp_ret ?_)
 obtain rfl := Option.some.inj H
 exact rt (.one (.c (.bool (!x6)))) s i rfl
set_option maxRecDepth 100000 in
set_option maxHeartbeats 4000000 in
theorem control_all_control_Spare_1_ok (n : Nat) {h : Heap} {w : World} (hh : Has h w) (x : Spare) {cs_x : List Value} (hx_x : rep h x cs_x) (q0 : Spare → Option Bool) {b_q0 : Nat} (hb_q0 : BoxS h b_q0 q0) {r : Bool} (H : control_all_control_Spare_1 n x q0 = some r) :
  Calls Try.prog 105 #[.agg cs_x.toArray, .pointer (some ⟨b_q0, 0, none⟩)] w (Ret (fun h v => v = .bool r) h w) := by
 obtain ⟨_, _, rfl, rfl, rfl⟩ := hx_x
 obtain ⟨_, hx_q0, hc_q0⟩ := id hb_q0
 obtain ⟨d, a, b, rfl, l⟩ := hx_q0
 refine enter' (e := [(b_q0, 0)]) 8 [.agg [.int .i64 x.stop, .int .i64 x.tm], .c (.ptr 0 0)] Try.func105 rfl rfl rfl rfl fun t hk => ?_
 have hm := Mem.begin h w hh
 replace hm := hm.addPlc (o := 0) (cs := [.func d a b]) (fun j c hj => by rw [Nat.zero_add]; exact hc_q0 j _ (map_get hj)) rfl (by kernel_rfl) (by kernel_rfl)
 replace hm : Mem ⟨w, h, noX⟩ h [(b_q0, 0)] [⟨[.func d a b], none⟩] [] w := hm
 unfold control_all_control_Spare_1 at H
 refine wp_seq (wp_region_from (wl fun K hK => ?_))
 refine wb (.agg [.int .i64 x.stop, .int .i64 x.tm]) hk hm fun g z aa (u : Kn 8 [(b_q0, 0), (g, 0)] [(tP 2 1 0), (tA 0 [.int .i64 x.stop, .int .i64 x.tm]), (tP 1 0 0)] z) (f : Mem ⟨w, h, noX⟩ h [(b_q0, 0), (g, 0)] [⟨[.func d a b], none⟩, ⟨[.int .i64 x.stop, .int .i64 x.tm], some 110⟩] [] aa) => hK _ _ ?_
 refine Rk 1 1 [(tP 2 1 0), (tP 1 0 0)] u f fun ad m => ?_
 refine wf (wp_seq (wp_region_from (Rk 0 2 [(tA 5 [.int .i64 x.stop, .int .i64 x.tm]), (4, .one (.c (.func d a b)))] m f fun ae p => ?_)))
 obtain ⟨x6, ex6, H⟩ := bnd H
 refine wl fun K hK => ?_
 refine wp_callV (.func d a b) [.agg [.int .i64 x.stop, .int .i64 x.tm]] _ p f rfl rfl (by decide) (by rfl) (by rfl) rfl (l _ _ (Heap.le_refl _) f.has x _ ((rep_pair rep_int rep_int) : rep h x _) _ ex6) fun ag ab ah k ac i => ?_
 obtain rfl := k
 refine ⟨.one (.c (.bool x6)), rfl, fun y (q : Kn 8 [(b_q0, 0), (g, 0)] [(tB 6 x6), (tA 5 [.int .i64 x.stop, .int .i64 x.tm]), (4, .one (.c (.func d a b)))] y) => hK _ _ ?_⟩
 refine Rk 3 2 [(tB 3 (!x6))] q i fun af s => ?_
 refine wf (wp_ret ?_)
 obtain rfl := Option.some.inj H
 exact rt (.one (.c (.bool (!x6)))) s i rfl
set_option maxRecDepth 100000 in
set_option maxHeartbeats 4000000 in
theorem control_all_control_Range_ok (n : Nat) {h : Heap} {w : World} (hh : Has h w) (l : List Rg) {a_l : Option Addr} {c_l : Nat} (hr_l : RepS h a_l c_l l) (right : Rg → Option Bool) {fn_right : Fn} {fa_right fc_right : Array Value} (hf_right : Fn1 h (.func fn_right fa_right fc_right) right) {r : Bool} (H : control_all_control_Range n l right = some r) :
  Calls Try.prog 80 #[.slice a_l l.length c_l, .func fn_right fa_right fc_right] w (Ret (fun h v => v = .bool r) h w) := by
 refine enter 9 [.c (.slice a_l l.length c_l), .c (.func fn_right fa_right fc_right)] Try.func80 rfl rfl rfl rfl fun t hk => ?_
 have hm := Mem.begin h w hh
 unfold control_all_control_Range at H
 refine wp_seq (wp_region_from (wl fun K hK => ?_))
 refine wb (.c (.func fn_right fa_right fc_right)) hk hm fun a ab m (x : Kn 9 [(a, 0)] [(tP 3 0 0), (tS 0 a_l l.length c_l), (1, .one (.c (.func fn_right fa_right fc_right)))] ab) (f : Mem ⟨w, h, noX⟩ h [(a, 0)] [⟨[.func fn_right fa_right fc_right], some 141⟩] [] m) => hK _ _ ?_
 refine Rk 1 1 [(tP 3 0 0), (tS 0 a_l l.length c_l)] x f fun ah y => ?_
 refine wf (wp_seq (wp_region_from (Rk 0 1 [(tS 5 a_l l.length c_l), (tP 3 0 0)] y f fun ai z => ?_)))
 obtain ⟨b, j, g, d⟩ := f.settlePlc (i := 0) rfl
 replace hr_l := hr_l.mono j
 replace hf_right := hf_right.mono j
 replace d : Mem ⟨w, h, noX⟩ b [(a, 0)] [⟨[.func fn_right fa_right fc_right], none⟩] [] m := d
 have p : BoxS b a (right : Rg → Option Bool) := BoxS.of (e := [(a, 0)]) (cs := [.func fn_right fa_right fc_right]) (⟨_, _, _, rfl, hf_right⟩ : rep b (right : Rg → Option Bool) _) rfl g
 have ae : CellsAt b a [.func fn_right fa_right fc_right] := CellsAt.of (e := [(a, 0)]) (cs := [.func fn_right fa_right fc_right]) rfl g
 refine R_func 1 #[] #[.pointer (some ⟨a, 0, none⟩)] z rfl rfl (rfl) rfl (by decide) (by rfl) (by rfl) (by rfl) (by rfl) fun aa (q : Kn 9 [(a, 0)] [(6, .one (.c (.func (.func 101) #[] #[.pointer (some ⟨a, 0, none⟩)]))), (tS 5 a_l l.length c_l), (tP 3 0 0)] aa) => ?_
 obtain ⟨x7, ex7, H⟩ := bnd H
 refine wl fun K hK => ?_
 refine wc [.c (.slice a_l l.length c_l), .c (.func (.func 101) #[] #[.pointer (some ⟨a, 0, none⟩)])] q d (slices_ContainsFunc_control_Range_control_Range_ok n d.has l hr_l (fun (y0 : Rg) => control_all_control_Range_1 n y0 right) (show Fn1 b (.func (.func 101) #[] #[.pointer (some ⟨a, 0, none⟩)]) (fun (y0 : Rg) => control_all_control_Range_1 n y0 right) from fun h2 w2 hle hh y0 cs0 hy0 r H => ⟨101, _, _, rfl, fun _ _ => by kernel_rfl, control_all_control_Range_1_ok n hh y0 hy0 right (p.mono hle) H⟩) ex7) fun aj ad ak o af k => ?_
 obtain rfl := o
 refine ⟨.one (.c (.bool x7)), rfl, fun ac (s : Kn 9 [(a, 0)] [(tB 7 x7), (6, .one (.c (.func (.func 101) #[] #[.pointer (some ⟨a, 0, none⟩)]))), (tS 5 a_l l.length c_l), (tP 3 0 0)] ac) => hK _ _ ?_⟩
 refine Rk 3 2 [(tB 4 (!x7))] s k fun ag u => ?_
 refine wf (wp_ret ?_)
 obtain rfl := Option.some.inj H
 exact rt (.one (.c (.bool (!x7)))) u k rfl
set_option maxRecDepth 100000 in
set_option maxHeartbeats 4000000 in
theorem control_all_control_Bus_ok (n : Nat) {h : Heap} {w : World} (hh : Has h w) (l : List Bus) {a_l : Option Addr} {c_l : Nat} (hr_l : RepS h a_l c_l l) (right : Bus → Option Bool) {fn_right : Fn} {fa_right fc_right : Array Value} (hf_right : Fn2 h (.func fn_right fa_right fc_right) right) {r : Bool} (H : control_all_control_Bus n l right = some r) :
  Calls Try.prog 82 #[.slice a_l l.length c_l, .func fn_right fa_right fc_right] w (Ret (fun h v => v = .bool r) h w) := by
 refine enter 9 [.c (.slice a_l l.length c_l), .c (.func fn_right fa_right fc_right)] Try.func82 rfl rfl rfl rfl fun t hk => ?_
 have hm := Mem.begin h w hh
 unfold control_all_control_Bus at H
 refine wp_seq (wp_region_from (wl fun K hK => ?_))
 refine wb (.c (.func fn_right fa_right fc_right)) hk hm fun a ab m (x : Kn 9 [(a, 0)] [(tP 3 0 0), (tS 0 a_l l.length c_l), (1, .one (.c (.func fn_right fa_right fc_right)))] ab) (f : Mem ⟨w, h, noX⟩ h [(a, 0)] [⟨[.func fn_right fa_right fc_right], some 138⟩] [] m) => hK _ _ ?_
 refine Rk 1 1 [(tP 3 0 0), (tS 0 a_l l.length c_l)] x f fun ah y => ?_
 refine wf (wp_seq (wp_region_from (Rk 0 1 [(tS 5 a_l l.length c_l), (tP 3 0 0)] y f fun ai z => ?_)))
 obtain ⟨b, j, g, d⟩ := f.settlePlc (i := 0) rfl
 replace hr_l := hr_l.mono j
 replace hf_right := hf_right.mono j
 replace d : Mem ⟨w, h, noX⟩ b [(a, 0)] [⟨[.func fn_right fa_right fc_right], none⟩] [] m := d
 have p : BoxS b a (right : Bus → Option Bool) := BoxS.of (e := [(a, 0)]) (cs := [.func fn_right fa_right fc_right]) (⟨_, _, _, rfl, hf_right⟩ : rep b (right : Bus → Option Bool) _) rfl g
 have ae : CellsAt b a [.func fn_right fa_right fc_right] := CellsAt.of (e := [(a, 0)]) (cs := [.func fn_right fa_right fc_right]) rfl g
 refine R_func 1 #[] #[.pointer (some ⟨a, 0, none⟩)] z rfl rfl (rfl) rfl (by decide) (by rfl) (by rfl) (by rfl) (by rfl) fun aa (q : Kn 9 [(a, 0)] [(6, .one (.c (.func (.func 103) #[] #[.pointer (some ⟨a, 0, none⟩)]))), (tS 5 a_l l.length c_l), (tP 3 0 0)] aa) => ?_
 obtain ⟨x7, ex7, H⟩ := bnd H
 refine wl fun K hK => ?_
 refine wc [.c (.slice a_l l.length c_l), .c (.func (.func 103) #[] #[.pointer (some ⟨a, 0, none⟩)])] q d (slices_ContainsFunc_control_Bus_control_Bus_ok n d.has l hr_l (fun (y0 : Bus) => control_all_control_Bus_1 n y0 right) (show Fn2 b (.func (.func 103) #[] #[.pointer (some ⟨a, 0, none⟩)]) (fun (y0 : Bus) => control_all_control_Bus_1 n y0 right) from fun h2 w2 hle hh y0 cs0 hy0 r H => ⟨103, _, _, rfl, fun _ _ => by kernel_rfl, control_all_control_Bus_1_ok n hh y0 hy0 right (p.mono hle) H⟩) ex7) fun aj ad ak o af k => ?_
 obtain rfl := o
 refine ⟨.one (.c (.bool x7)), rfl, fun ac (s : Kn 9 [(a, 0)] [(tB 7 x7), (6, .one (.c (.func (.func 103) #[] #[.pointer (some ⟨a, 0, none⟩)]))), (tS 5 a_l l.length c_l), (tP 3 0 0)] ac) => hK _ _ ?_⟩
 refine Rk 3 2 [(tB 4 (!x7))] s k fun ag u => ?_
 refine wf (wp_ret ?_)
 obtain rfl := Option.some.inj H
 exact rt (.one (.c (.bool (!x7)))) u k rfl
set_option maxRecDepth 100000 in
set_option maxHeartbeats 4000000 in
theorem control_all_control_Spare_ok (n : Nat) {h : Heap} {w : World} (hh : Has h w) (l : List Spare) {a_l : Option Addr} {c_l : Nat} (hr_l : RepS h a_l c_l l) (right : Spare → Option Bool) {fn_right : Fn} {fa_right fc_right : Array Value} (hf_right : Fn3 h (.func fn_right fa_right fc_right) right) {r : Bool} (H : control_all_control_Spare n l right = some r) :
  Calls Try.prog 83 #[.slice a_l l.length c_l, .func fn_right fa_right fc_right] w (Ret (fun h v => v = .bool r) h w) := by
 refine enter 9 [.c (.slice a_l l.length c_l), .c (.func fn_right fa_right fc_right)] Try.func83 rfl rfl rfl rfl fun t hk => ?_
 have hm := Mem.begin h w hh
 unfold control_all_control_Spare at H
 refine wp_seq (wp_region_from (wl fun K hK => ?_))
 refine wb (.c (.func fn_right fa_right fc_right)) hk hm fun a ab m (x : Kn 9 [(a, 0)] [(tP 3 0 0), (tS 0 a_l l.length c_l), (1, .one (.c (.func fn_right fa_right fc_right)))] ab) (f : Mem ⟨w, h, noX⟩ h [(a, 0)] [⟨[.func fn_right fa_right fc_right], some 139⟩] [] m) => hK _ _ ?_
 refine Rk 1 1 [(tP 3 0 0), (tS 0 a_l l.length c_l)] x f fun ah y => ?_
 refine wf (wp_seq (wp_region_from (Rk 0 1 [(tS 5 a_l l.length c_l), (tP 3 0 0)] y f fun ai z => ?_)))
 obtain ⟨b, j, g, d⟩ := f.settlePlc (i := 0) rfl
 replace hr_l := hr_l.mono j
 replace hf_right := hf_right.mono j
 replace d : Mem ⟨w, h, noX⟩ b [(a, 0)] [⟨[.func fn_right fa_right fc_right], none⟩] [] m := d
 have p : BoxS b a (right : Spare → Option Bool) := BoxS.of (e := [(a, 0)]) (cs := [.func fn_right fa_right fc_right]) (⟨_, _, _, rfl, hf_right⟩ : rep b (right : Spare → Option Bool) _) rfl g
 have ae : CellsAt b a [.func fn_right fa_right fc_right] := CellsAt.of (e := [(a, 0)]) (cs := [.func fn_right fa_right fc_right]) rfl g
 refine R_func 1 #[] #[.pointer (some ⟨a, 0, none⟩)] z rfl rfl (rfl) rfl (by decide) (by rfl) (by rfl) (by rfl) (by rfl) fun aa (q : Kn 9 [(a, 0)] [(6, .one (.c (.func (.func 105) #[] #[.pointer (some ⟨a, 0, none⟩)]))), (tS 5 a_l l.length c_l), (tP 3 0 0)] aa) => ?_
 obtain ⟨x7, ex7, H⟩ := bnd H
 refine wl fun K hK => ?_
 refine wc [.c (.slice a_l l.length c_l), .c (.func (.func 105) #[] #[.pointer (some ⟨a, 0, none⟩)])] q d (slices_ContainsFunc_control_Spare_control_Spare_ok n d.has l hr_l (fun (y0 : Spare) => control_all_control_Spare_1 n y0 right) (show Fn3 b (.func (.func 105) #[] #[.pointer (some ⟨a, 0, none⟩)]) (fun (y0 : Spare) => control_all_control_Spare_1 n y0 right) from fun h2 w2 hle hh y0 cs0 hy0 r H => ⟨105, _, _, rfl, fun _ _ => by kernel_rfl, control_all_control_Spare_1_ok n hh y0 hy0 right (p.mono hle) H⟩) ex7) fun aj ad ak o af k => ?_
 obtain rfl := o
 refine ⟨.one (.c (.bool x7)), rfl, fun ac (s : Kn 9 [(a, 0)] [(tB 7 x7), (6, .one (.c (.func (.func 105) #[] #[.pointer (some ⟨a, 0, none⟩)]))), (tS 5 a_l l.length c_l), (tP 3 0 0)] ac) => hK _ _ ?_⟩
 refine Rk 3 2 [(tB 4 (!x7))] s k fun ag u => ?_
 refine wf (wp_ret ?_)
 obtain rfl := Option.some.inj H
 exact rt (.one (.c (.bool (!x7)))) u k rfl
abbrev K50c1 (k : Option Addr) (r_ : Route) (o : Nat) (l : Option Addr) (p : Nat) (m : Option Addr) (q : Nat) : List SC := [.slice k r_.legs.length o, .int .i64 r_.turn.lo, .int .i64 r_.turn.hi, .slice l r_.buses.length p, .slice m r_.spares.length q, .int .i64 r_.unit, .int .i64 r_.gap, .int .i64 r_.fr, .int .i64 r_.to_]
abbrev K50m2 (a : Nat) : TM := [(4, .one (.c (.func (.func 77) #[] #[.pointer (some ⟨a, 0, none⟩)]))), (3, .one (.c (.func (.func 75) #[] #[.pointer (some ⟨a, 0, none⟩)]))), (tP 1 0 0)]
abbrev K50m3 (a : Nat) : TM := [(4, .one (.c (.func (.func 77) #[] #[.pointer (some ⟨a, 0, none⟩)]))), (tP 1 0 0)]
set_option maxRecDepth 100000 in
set_option maxHeartbeats 4000000 in
theorem control_Route_check_ok (n : Nat) {h : Heap} {w : World} (hh : Has h w) (r_ : Route) {cs_r_ : List Value} (hx_r_ : rep h r_ cs_r_) {r : Int} (H : control_Route_check n r_ = some r) :
  Calls Try.prog 50 #[.agg cs_r_.toArray] w (Ret (fun h v => v = .int .i64 r) h w) := by
 obtain ⟨_, _, rfl, ⟨k, o, rfl, d⟩, ⟨_, _, rfl, ⟨_, _, rfl, rfl, rfl⟩, ⟨_, _, rfl, ⟨l, p, rfl, f⟩, ⟨_, _, rfl, ⟨m, q, rfl, g⟩, ⟨_, _, rfl, rfl, ⟨_, _, rfl, rfl, ⟨_, _, rfl, rfl, rfl⟩⟩⟩⟩⟩⟩⟩ := hx_r_
 refine enter 85 [.agg (K50c1 k r_ o l p m q)] Try.func50 rfl rfl rfl rfl fun t hk => ?_
 have hm := Mem.begin h w hh
 unfold control_Route_check at H
 refine wp_seq (wp_region_from (wl fun K hK => ?_))
 refine wb (.agg (K50c1 k r_ o l p m q)) hk hm fun a ef ch (c4 : Kn 85 [(a, 0)] [(tP 1 0 0), (tA 0 (K50c1 k r_ o l p m q))] ef) (b4 : Mem ⟨w, h, noX⟩ h [(a, 0)] [⟨(K50c1 k r_ o l p m q), some 43⟩] [] ch) => hK _ _ ?_
 refine Rk 1 1 [(tP 1 0 0)] c4 b4 fun e4 da => ?_
 refine wf (wp_seq (wp_region_from ?_))
 obtain ⟨ak, bc, bf, y⟩ := b4.settlePlc (i := 0) rfl
 replace d := d.mono bc
 replace f := f.mono bc
 replace g := g.mono bc
 replace y : Mem ⟨w, h, noX⟩ ak [(a, 0)] [⟨(K50c1 k r_ o l p m q), none⟩] [] ch := y
 have j : BoxS ak a (r_ : Route) := BoxS.of (e := [(a, 0)]) (cs := (K50c1 k r_ o l p m q)) ((rep_pair (rep_slice d) (rep_pair (rep_pair rep_int rep_int) (rep_pair (rep_slice f) (rep_pair (rep_slice g) (rep_pair rep_int (rep_pair rep_int (rep_pair rep_int rep_int))))))) : rep ak (r_ : Route) _) rfl bf
 have s : CellsAt ak a [.slice k r_.legs.length o, .int .i64 r_.turn.lo, .int .i64 r_.turn.hi, .slice l r_.buses.length p, .slice m r_.spares.length q, .int .i64 r_.unit, .int .i64 r_.gap, .int .i64 r_.fr, .int .i64 r_.to_] := CellsAt.of (e := [(a, 0)]) (cs := [.slice k r_.legs.length o, .int .i64 r_.turn.lo, .int .i64 r_.turn.hi, .slice l r_.buses.length p, .slice m r_.spares.length q, .int .i64 r_.unit, .int .i64 r_.gap, .int .i64 r_.fr, .int .i64 r_.to_]) rfl bf
 refine R_func 0 #[] #[.pointer (some ⟨a, 0, none⟩)] da rfl rfl (rfl) rfl (by decide) (by rfl) (by rfl) (by rfl) (by rfl) fun em (dt : Kn 85 [(a, 0)] [(5, .one (.c (.func (.func 75) #[] #[.pointer (some ⟨a, 0, none⟩)]))), (tP 1 0 0)] em) => ?_
 refine Rk 1 1 [(3, .one (.c (.func (.func 75) #[] #[.pointer (some ⟨a, 0, none⟩)]))), (tP 1 0 0)] dt y fun fj du => ?_
 refine wf (wp_seq (wp_region_from (R_func 0 #[] #[.pointer (some ⟨a, 0, none⟩)] du rfl rfl (rfl) rfl (by decide) (by rfl) (by rfl) (by rfl) (by rfl) fun en (dv : Kn 85 [(a, 0)] [(6, .one (.c (.func (.func 77) #[] #[.pointer (some ⟨a, 0, none⟩)]))), (3, .one (.c (.func (.func 75) #[] #[.pointer (some ⟨a, 0, none⟩)]))), (tP 1 0 0)] en) => ?_)))
 refine Rk 1 1 (K50m2 a) dv y fun fk dw => ?_
 refine wf (wp_seq (wp_block (wp_seq ?_)))
 obtain ⟨b5, a4, H⟩ := bnd H
 refine wp_mid' (fun a' w' => ∃ (bd : Array Value) (al : Heap), a' = ⟨bd, []⟩ ∧ Kn 85 [(a, 0)] [(4, .one (.c (.func (.func 77) #[] #[.pointer (some ⟨a, 0, none⟩)]))), (3, .one (.c (.func (.func 75) #[] #[.pointer (some ⟨a, 0, none⟩)]))), (tP 1 0 0), (tB 7 b5)] bd ∧ Mem ⟨w, h, noX⟩ al [(a, 0)] [⟨(K50c1 k r_ o l p m q), none⟩] [] w' ∧ Heap.le ak al) ?_ ?_
 ·
  refine wp_region_from (Rk 0 5 ((tB 12 (decide (((r_.buses.length : Nat) : Int) > 4))) :: (K50m2 a)) dw y fun cd bv => ?_)
  rcases Bool.eq_false_or_eq_true (decide (((r_.buses.length : Nat) : Int) > 4)) with au | au
  ·
   rw [au, cond_true] at a4
   have dx : Kn 85 [(a, 0)] ((tB 12 true) :: (K50m2 a)) cd := (bv.setB 12 true (by rfl) au).kp
   refine Rk 5 6 ((tB 7 true) :: (K50m2 a)) dx y fun fl dy => ?_
   refine wf ?_
   obtain rfl := Option.some.inj a4
   exact Exists.intro _ ⟨_, rfl, dy.kp, y, (Heap.le_refl _)⟩
  ·
   rw [au, cond_false] at a4
   have dz : Kn 85 [(a, 0)] ((tB 12 false) :: (K50m2 a)) cd := (bv.setB 12 false (by rfl) au).kp
   refine Rk 5 6 ((tB 7 (decide (((r_.spares.length : Nat) : Int) > 2))) :: (K50m2 a)) dz y fun fm d0 => ?_
   refine wf ?_
   obtain rfl := Option.some.inj a4
   exact Exists.intro _ ⟨_, rfl, d0.kp, y, (Heap.le_refl _)⟩
 ·
  rintro _ gb ⟨bd, al, rfl, bb, ab, a2⟩
  replace d := d.mono a2
  replace f := f.mono a2
  replace g := g.mono a2
  replace j := j.mono a2
  replace s := s.mono a2
  refine wC (b5) bb (fun a8 => ?_) (fun a8 => ?_)
  ·
   rw [a8, cond_true] at H
   refine wp_seq (wp_region_from (Rk 0 1 [(tI 2 3)] bb ab fun fn d1 => ?_))
   refine wf (wp_ret ?_)
   obtain rfl := Option.some.inj H
   exact rt (.one (.c (.int .i64 3))) d1 ab rfl
  ·
   rw [a8, cond_false] at H
   refine wp_seq ?_
   obtain ⟨b6, b, H⟩ := bnd H
   refine wp_mid' (fun a' w' => ∃ (be : Array Value) (a5 : Heap), a' = ⟨be, []⟩ ∧ Kn 85 [(a, 0)] [(tP 1 0 0), (tB 18 b6)] be ∧ Mem ⟨w, h, noX⟩ a5 [(a, 0)] [⟨(K50c1 k r_ o l p m q), none⟩] [] w' ∧ Heap.le al a5) ?_ ?_
   ·
    refine wp_region_from (Rk 0 6 ((tB 24 ((Int.tmod ((r_.legs.length : Nat) : Int) 2) == 0)) :: (K50m2 a)) bb ab fun ce bw => ?_)
    rcases Bool.eq_false_or_eq_true (((Int.tmod ((r_.legs.length : Nat) : Int) 2) == 0)) with av | av
    ·
     rw [av, cond_true] at b
     have d2 : Kn 85 [(a, 0)] ((tB 24 true) :: (K50m2 a)) ce := (bw.setB 24 true (by rfl) av).kp
     refine Rk 6 31 [(tB 18 true), (tP 1 0 0)] d2 ab fun fo d3 => ?_
     refine wf ?_
     obtain rfl := Option.some.inj b
     exact Exists.intro _ ⟨_, rfl, d3.kp, ab, (Heap.le_refl _)⟩
    ·
     rw [av, cond_false] at b
     have d4 : Kn 85 [(a, 0)] ((tB 24 false) :: (K50m2 a)) ce := (bw.setB 24 false (by rfl) av).kp
     refine Rk 6 1 ((tA 25 (K50c1 k r_ o l p m q)) :: (tB 24 false) :: (K50m2 a)) d4 ab fun fp bx => ?_
     obtain ⟨x26, ex26, b⟩ := bnd b
     refine wpFrom_loud _ rfl (wantedS_sound bx (by kernel_rfl)) fun K hK => ?_
     refine wc [.agg (K50c1 k r_ o l p m q)] bx ab (control_Route_places_ok n ab.has r_ ((rep_pair (rep_slice d) (rep_pair (rep_pair rep_int rep_int) (rep_pair (rep_slice f) (rep_pair (rep_slice g) (rep_pair rep_int (rep_pair rep_int (rep_pair rep_int rep_int))))))) : rep al r_ _) ex26) fun f1 ct gc co u ai => ?_
     replace d := d.mono u
     replace f := f.mono u
     replace g := g.mono u
     replace j := j.mono u
     replace s := s.mono u
     obtain rfl := co
     refine ⟨.one (.c (.int .i64 x26)), rfl, fun eo (d5 : Kn 85 [(a, 0)] ((tI 26 x26) :: (tA 25 (K50c1 k r_ o l p m q)) :: (tB 24 false) :: (K50m2 a)) eo) => hK _ _ ?_⟩
     refine Rk 8 3 ((tB 29 (decide (x26 > 4))) :: (K50m2 a)) d5 ai fun cf bz => ?_
     rcases Bool.eq_false_or_eq_true (decide (x26 > 4)) with aw | aw
     ·
      rw [aw, cond_true] at b
      have d6 : Kn 85 [(a, 0)] ((tB 29 true) :: (K50m2 a)) cf := (bz.setB 29 true (by rfl) aw).kp
      refine Rk 11 26 [(tB 18 true), (tP 1 0 0)] d6 ai fun fq d7 => ?_
      refine wf ?_
      obtain rfl := Option.some.inj b
      exact Exists.intro _ ⟨_, rfl, d7.kp, ai, u⟩
     ·
      rw [aw, cond_false] at b
      have d8 : Kn 85 [(a, 0)] ((tB 29 false) :: (K50m2 a)) cf := (bz.setB 29 false (by rfl) aw).kp
      refine Rk 11 2 ((tS 31 k r_.legs.length o) :: (tB 29 false) :: (K50m2 a)) d8 ai fun fs b0 => ?_
      obtain ⟨x32, ex32, b⟩ := bnd b
      refine wpFrom_loud _ rfl (wantedS_sound b0 (by kernel_rfl)) fun K hK => ?_
      refine wc [.c (.slice k r_.legs.length o), .c (.func (.func 81) #[] #[])] b0 ai (control_all_control_Range_ok n ai.has r_.legs d (fun (y0 : Rg) => control_Range_takes n y0) (show Fn1 ct (.func (.func 81) #[] #[]) (fun (y0 : Rg) => control_Range_takes n y0) from fun h2 w2 hle hh y0 cs0 hy0 r H => ⟨81, _, _, rfl, fun _ _ => by kernel_rfl, control_Range_takes_ok n hh y0 hy0 H⟩) ex32) fun f2 cu gd cp x aj => ?_
      replace d := d.mono x
      replace f := f.mono x
      replace g := g.mono x
      replace j := j.mono x
      replace s := s.mono x
      obtain rfl := cp
      refine ⟨.one (.c (.bool x32)), rfl, fun ep (d9 : Kn 85 [(a, 0)] ((tB 32 x32) :: (tS 31 k r_.legs.length o) :: (tB 29 false) :: (K50m2 a)) ep) => hK _ _ ?_⟩
      refine Rk 14 3 ((tB 35 (!x32)) :: (K50m2 a)) d9 aj fun cg b1 => ?_
      rcases Bool.eq_false_or_eq_true ((!x32)) with ax | ax
      ·
       rw [ax, cond_true] at b
       have ea : Kn 85 [(a, 0)] ((tB 35 true) :: (K50m2 a)) cg := (b1.setB 35 true (by rfl) ax).kp
       refine Rk 17 20 [(tB 18 true), (tP 1 0 0)] ea aj fun ft eb => ?_
       refine wf ?_
       obtain rfl := Option.some.inj b
       exact Exists.intro _ ⟨_, rfl, eb.kp, aj, (Heap.le_trans u x)⟩
      ·
       rw [ax, cond_false] at b
       have ec : Kn 85 [(a, 0)] ((tB 35 false) :: (K50m2 a)) cg := (b1.setB 35 false (by rfl) ax).kp
       refine Rk 17 2 ((tA 37 [.int .i64 r_.turn.lo, .int .i64 r_.turn.hi]) :: (tB 35 false) :: (K50m2 a)) ec aj fun fu b2 => ?_
       obtain ⟨x38, ex38, b⟩ := bnd b
       refine wpFrom_loud _ rfl (wantedS_sound b2 (by kernel_rfl)) fun K hK => ?_
       refine wc [.agg [.int .i64 r_.turn.lo, .int .i64 r_.turn.hi]] b2 aj (control_Range_takes_ok n aj.has r_.turn ((rep_pair rep_int rep_int) : rep cu r_.turn _) ex38) fun f3 cv gf cq aa ag => ?_
       replace d := d.mono aa
       replace f := f.mono aa
       replace g := g.mono aa
       replace j := j.mono aa
       replace s := s.mono aa
       obtain rfl := cq
       refine ⟨.one (.c (.bool x38)), rfl, fun ee (cw : Kn 85 [(a, 0)] ((tB 38 x38) :: (tA 37 [.int .i64 r_.turn.lo, .int .i64 r_.turn.hi]) :: (tB 35 false) :: (K50m2 a)) ee) => hK _ _ ?_⟩
       refine Rk 20 3 ((tB 41 (!x38)) :: (K50m2 a)) cw ag fun b7 bg => ?_
       rcases Bool.eq_false_or_eq_true ((!x38)) with am | am
       ·
        rw [am, cond_true] at b
        have cx : Kn 85 [(a, 0)] ((tB 41 true) :: (K50m2 a)) b7 := (bg.setB 41 true (by rfl) am).kp
        refine Rk 23 14 [(tB 18 true), (tP 1 0 0)] cx ag fun ex cy => ?_
        refine wf ?_
        obtain rfl := Option.some.inj b
        exact Exists.intro _ ⟨_, rfl, cy.kp, ag, (Heap.le_trans u (Heap.le_trans x aa))⟩
       ·
        rw [am, cond_false] at b
        have cz : Kn 85 [(a, 0)] ((tB 41 false) :: (K50m2 a)) b7 := (bg.setB 41 false (by rfl) am).kp
        refine Rk 23 3 ((44, .one (.c (.func (.func 75) #[] #[.pointer (some ⟨a, 0, none⟩)]))) :: (tS 43 l r_.buses.length p) :: (tB 41 false) :: (K50m3 a)) cz ag fun ey bh => ?_
        obtain ⟨x45, ex45, b⟩ := bnd b
        refine wpFrom_loud _ rfl (wantedS_sound bh (by kernel_rfl)) fun K hK => ?_
        refine wc [.c (.slice l r_.buses.length p), .c (.func (.func 75) #[] #[.pointer (some ⟨a, 0, none⟩)])] bh ag (control_all_control_Bus_ok n ag.has r_.buses f (fun (y0 : Bus) => control_Route_check_1 n y0 r_) (show Fn2 cv (.func (.func 75) #[] #[.pointer (some ⟨a, 0, none⟩)]) (fun (y0 : Bus) => control_Route_check_1 n y0 r_) from fun h2 w2 hle hh y0 cs0 hy0 r H => ⟨75, _, _, rfl, fun _ _ => by kernel_rfl, control_Route_check_1_ok n hh y0 hy0 r_ (j.mono hle) H⟩) ex45) fun fv cr f4 ci ac ah => ?_
        replace d := d.mono ac
        replace f := f.mono ac
        replace g := g.mono ac
        replace j := j.mono ac
        replace s := s.mono ac
        obtain rfl := ci
        refine ⟨.one (.c (.bool x45)), rfl, fun eg (c0 : Kn 85 [(a, 0)] ((tB 45 x45) :: (44, .one (.c (.func (.func 75) #[] #[.pointer (some ⟨a, 0, none⟩)]))) :: (tS 43 l r_.buses.length p) :: (tB 41 false) :: (K50m3 a)) eg) => hK _ _ ?_⟩
        refine Rk 27 3 ((tB 48 (!x45)) :: (K50m3 a)) c0 ah fun b8 bi => ?_
        rcases Bool.eq_false_or_eq_true ((!x45)) with an | an
        ·
         rw [an, cond_true] at b
         have c1 : Kn 85 [(a, 0)] ((tB 48 true) :: (K50m3 a)) b8 := (bi.setB 48 true (by rfl) an).kp
         refine Rk 30 7 [(tB 18 true), (tP 1 0 0)] c1 ah fun ez c2 => ?_
         refine wf ?_
         obtain rfl := Option.some.inj b
         exact Exists.intro _ ⟨_, rfl, c2.kp, ah, (Heap.le_trans u (Heap.le_trans x (Heap.le_trans aa ac)))⟩
        ·
         rw [an, cond_false] at b
         have c3 : Kn 85 [(a, 0)] ((tB 48 false) :: (K50m3 a)) b8 := (bi.setB 48 false (by rfl) an).kp
         refine Rk 30 3 [(51, .one (.c (.func (.func 77) #[] #[.pointer (some ⟨a, 0, none⟩)]))), (tS 50 m r_.spares.length q), (tB 48 false), (tP 1 0 0)] c3 ah fun e0 bj => ?_
         obtain ⟨x52, ex52, b⟩ := bnd b
         refine wpFrom_loud _ rfl (wantedS_sound bj (by kernel_rfl)) fun K hK => ?_
         refine wc [.c (.slice m r_.spares.length q), .c (.func (.func 77) #[] #[.pointer (some ⟨a, 0, none⟩)])] bj ah (control_all_control_Spare_ok n ah.has r_.spares g (fun (y0 : Spare) => control_Route_check_2 n y0 r_) (show Fn3 cr (.func (.func 77) #[] #[.pointer (some ⟨a, 0, none⟩)]) (fun (y0 : Spare) => control_Route_check_2 n y0 r_) from fun h2 w2 hle hh y0 cs0 hy0 r H => ⟨77, _, _, rfl, fun _ _ => by kernel_rfl, control_Route_check_2_ok n hh y0 hy0 r_ (j.mono hle) H⟩) ex52) fun fw er f5 cj ed b3 => ?_
         obtain rfl := cj
         refine ⟨.one (.c (.bool x52)), rfl, fun eh (c5 : Kn 85 [(a, 0)] [(tB 52 x52), (51, .one (.c (.func (.func 77) #[] #[.pointer (some ⟨a, 0, none⟩)]))), (tS 50 m r_.spares.length q), (tB 48 false), (tP 1 0 0)] eh) => hK _ _ ?_⟩
         refine Rk 34 3 [(tB 18 (!x52)), (tP 1 0 0)] c5 b3 fun e1 c6 => ?_
         refine wf ?_
         obtain rfl := Option.some.inj b
         exact Exists.intro _ ⟨_, rfl, c6.kp, b3, (Heap.le_trans u (Heap.le_trans x (Heap.le_trans aa (Heap.le_trans ac ed))))⟩
   ·
    rintro _ f6 ⟨be, a5, rfl, a9, a3, ay⟩
    replace d := d.mono ay
    replace f := f.mono ay
    replace g := g.mono ay
    replace j := j.mono ay
    replace s := s.mono ay
    refine wC (b6) a9 (fun a6 => ?_) (fun a6 => ?_)
    ·
     rw [a6, cond_true] at H
     refine wp_seq (wp_region_from (Rk 0 1 [(tI 2 1)] a9 a3 fun e2 c7 => ?_))
     refine wf (wp_ret ?_)
     obtain rfl := Option.some.inj H
     exact rt (.one (.c (.int .i64 1))) c7 a3 rfl
    ·
     rw [a6, cond_false] at H
     refine wp_seq (wp_region_from (Rk 0 2 [(tI 57 r_.unit), (tP 1 0 0)] a9 a3 fun e3 c8 => ?_))
     obtain ⟨x58, ex58, H⟩ := bnd H
     refine wl fun K hK => ?_
     refine wc [.c (.int .i64 r_.unit), .c (.int .i64 1), .c (.int .i64 30)] c8 a3 (control_within_ok n a3.has r_.unit 1 30 ex58) fun fx es f7 ck az ad => ?_
     replace d := d.mono az
     replace f := f.mono az
     replace g := g.mono az
     replace j := j.mono az
     replace s := s.mono az
     obtain rfl := ck
     refine ⟨.one (.c (.bool x58)), rfl, fun ei (c9 : Kn 85 [(a, 0)] [(tB 58 x58), (tI 57 r_.unit), (tP 1 0 0)] ei) => hK _ _ ?_⟩
     refine Rk 3 2 [(tB 60 (!x58)), (tP 1 0 0)] c9 ad fun b9 bk => ?_
     rcases Bool.eq_false_or_eq_true ((!x58)) with ao | ao
     ·
      rw [ao, cond_true] at H
      have db : Kn 85 [(a, 0)] [(tB 60 true), (tP 1 0 0)] b9 := (bk.setB 60 true (by rfl) ao).kp
      refine Rk 5 25 [(tB 55 true)] db ad fun e5 bl => ?_
      refine wf (wC true bl (fun hb => ?_) (fun hb => ?_))
      rotate_left
      ·
       cases hb
      refine wp_seq (wp_region_from (Rk 0 1 [(tI 2 1)] bl ad fun e6 dc => ?_))
      refine wf (wp_ret ?_)
      obtain rfl := Option.some.inj H
      exact rt (.one (.c (.int .i64 1))) dc ad rfl
     ·
      rw [ao, cond_false] at H
      have dd : Kn 85 [(a, 0)] [(tB 60 false), (tP 1 0 0)] b9 := (bk.setB 60 false (by rfl) ao).kp
      refine Rk 5 2 [(tI 62 r_.gap), (tB 60 false), (tP 1 0 0)] dd ad fun e7 bm => ?_
      obtain ⟨x63, ex63, H⟩ := bnd H
      refine wpFrom_loud _ rfl (wantedS_sound bm (by kernel_rfl)) fun K hK => ?_
      refine wc [.c (.int .i64 r_.gap)] bm ad (control_minute_ok n ad.has r_.gap ex63) fun fy et f8 cl a0 ae => ?_
      replace d := d.mono a0
      replace f := f.mono a0
      replace g := g.mono a0
      replace j := j.mono a0
      replace s := s.mono a0
      obtain rfl := cl
      refine ⟨.one (.c (.bool x63)), rfl, fun ej (de : Kn 85 [(a, 0)] [(tB 63 x63), (tI 62 r_.gap), (tB 60 false), (tP 1 0 0)] ej) => hK _ _ ?_⟩
      refine Rk 8 3 [(tB 66 (!x63)), (tP 1 0 0)] de ae fun ca bn => ?_
      rcases Bool.eq_false_or_eq_true ((!x63)) with ap | ap
      ·
       rw [ap, cond_true] at H
       have df : Kn 85 [(a, 0)] [(tB 66 true), (tP 1 0 0)] ca := (bn.setB 66 true (by rfl) ap).kp
       refine Rk 11 19 [(tB 55 true)] df ae fun e8 bo => ?_
       refine wf (wC true bo (fun hb => ?_) (fun hb => ?_))
       rotate_left
       ·
        cases hb
       refine wp_seq (wp_region_from (Rk 0 1 [(tI 2 1)] bo ae fun e9 dg => ?_))
       refine wf (wp_ret ?_)
       obtain rfl := Option.some.inj H
       exact rt (.one (.c (.int .i64 1))) dg ae rfl
      ·
       rw [ap, cond_false] at H
       have dh : Kn 85 [(a, 0)] [(tB 66 false), (tP 1 0 0)] ca := (bn.setB 66 false (by rfl) ap).kp
       refine Rk 11 2 [(tI 68 r_.fr), (tB 66 false), (tP 1 0 0)] dh ae fun fa bp => ?_
       obtain ⟨x69, ex69, H⟩ := bnd H
       refine wpFrom_loud _ rfl (wantedS_sound bp (by kernel_rfl)) fun K hK => ?_
       refine wc [.c (.int .i64 r_.fr)] bp ae (control_minute_ok n ae.has r_.fr ex69) fun fz eu f9 cm a1 af => ?_
       replace d := d.mono a1
       replace f := f.mono a1
       replace g := g.mono a1
       replace j := j.mono a1
       replace s := s.mono a1
       obtain rfl := cm
       refine ⟨.one (.c (.bool x69)), rfl, fun ek (di : Kn 85 [(a, 0)] [(tB 69 x69), (tI 68 r_.fr), (tB 66 false), (tP 1 0 0)] ek) => hK _ _ ?_⟩
       refine Rk 14 3 [(tB 72 (!x69)), (tP 1 0 0)] di af fun cb bq => ?_
       rcases Bool.eq_false_or_eq_true ((!x69)) with aq | aq
       ·
        rw [aq, cond_true] at H
        have dj : Kn 85 [(a, 0)] [(tB 72 true), (tP 1 0 0)] cb := (bq.setB 72 true (by rfl) aq).kp
        refine Rk 17 13 [(tB 55 true)] dj af fun fb br => ?_
        refine wf (wC true br (fun hb => ?_) (fun hb => ?_))
        rotate_left
        ·
         cases hb
        refine wp_seq (wp_region_from (Rk 0 1 [(tI 2 1)] br af fun fc dk => ?_))
        refine wf (wp_ret ?_)
        obtain rfl := Option.some.inj H
        exact rt (.one (.c (.int .i64 1))) dk af rfl
       ·
        rw [aq, cond_false] at H
        have dl : Kn 85 [(a, 0)] [(tB 72 false), (tP 1 0 0)] cb := (bq.setB 72 false (by rfl) aq).kp
        refine Rk 17 2 [(tI 74 r_.to_), (tB 72 false), (tP 1 0 0)] dl af fun fd bs => ?_
        obtain ⟨x75, ex75, H⟩ := bnd H
        refine wpFrom_loud _ rfl (wantedS_sound bs (by kernel_rfl)) fun K hK => ?_
        refine wc [.c (.int .i64 r_.to_)] bs af (control_minute_ok n af.has r_.to_ ex75) fun f0 ev ga cn ew z => ?_
        obtain rfl := cn
        refine ⟨.one (.c (.bool x75)), rfl, fun el (dm : Kn 85 [(a, 0)] [(tB 75 x75), (tI 74 r_.to_), (tB 72 false), (tP 1 0 0)] el) => hK _ _ ?_⟩
        refine Rk 20 3 [(tB 78 (!x75)), (tP 1 0 0)] dm z fun cc bt => ?_
        rcases Bool.eq_false_or_eq_true ((!x75)) with ar | ar
        ·
         rw [ar, cond_true] at H
         have dn : Kn 85 [(a, 0)] [(tB 78 true), (tP 1 0 0)] cc := (bt.setB 78 true (by rfl) ar).kp
         refine Rk 23 7 [(tB 55 true)] dn z fun fe bu => ?_
         refine wf (wC true bu (fun hb => ?_) (fun hb => ?_))
         rotate_left
         ·
          cases hb
         refine wp_seq (wp_region_from (Rk 0 1 [(tI 2 1)] bu z fun ff dp => ?_))
         refine wf (wp_ret ?_)
         obtain rfl := Option.some.inj H
         exact rt (.one (.c (.int .i64 1))) dp z rfl
        ·
         rw [ar, cond_false] at H
         have dq : Kn 85 [(a, 0)] [(tB 78 false), (tP 1 0 0)] cc := (bt.setB 78 false (by rfl) ar).kp
         refine Rk 23 7 [(tB 55 (decide (r_.fr > r_.to_)))] dq z fun fg ba => ?_
         refine wf (wC (decide (r_.fr > r_.to_)) ba (fun a7 => ?_) (fun a7 => ?_))
         ·
          rw [a7, cond_true] at H
          refine wp_seq (wp_region_from (Rk 0 1 [(tI 2 1)] ba z fun fh dr => ?_))
          refine wf (wp_ret ?_)
          obtain rfl := Option.some.inj H
          exact rt (.one (.c (.int .i64 1))) dr z rfl
         ·
          rw [a7, cond_false] at H
          refine wp_skip (wp_seq (wp_region_from (Rk 0 1 [(tI 2 0)] ba z fun fi ds => ?_)))
          refine wf (wp_ret ?_)
          obtain rfl := Option.some.inj H
          exact rt (.one (.c (.int .i64 0))) ds z rfl
abbrev K63c1 (x44 : Bus) : List SC := [.int .i64 x44.stop, .int .i64 x44.tm.lo, .int .i64 x44.tm.hi]
abbrev K63c2 (o : Option Addr) (a : Acts) (q : Nat) (p : Option Addr) (s : Nat) (y : Option Addr) (z : Nat) : List SC := [.slice o a.holds.length q, .slice p a.turns.length s, .slice y a.spares.length z]
abbrev K63e3 (e f u x : Nat) (x_v10 : Int) (aa ad ag : Nat) : Env := [(e, 0), (f, 0), (u, x + (x_v10 : Int).toNat * 3), (aa, 0), (ad, ag + (x_v10 : Int).toNat * 1)]
abbrev K63c4 (g : Option Addr) (r_ : Route) (k : Nat) (b : Option Addr) (d : Nat) (i : Option Addr) (l : Nat) : List SC := [.slice g r_.legs.length k, .int .i64 r_.turn.lo, .int .i64 r_.turn.hi, .slice b r_.buses.length d, .slice i r_.spares.length l, .int .i64 r_.unit, .int .i64 r_.gap, .int .i64 r_.fr, .int .i64 r_.to_]
abbrev K63m5 (x_v10 : Int) (r_ : Route) (b : Option Addr) (d : Nat) : TM := [(tI 41 x_v10), (tI 40 ((r_.buses.length : Nat) : Int)), (tS 39 b r_.buses.length d), (tP 3 1 0), (tP 2 0 0)]
abbrev K63m6 : TM := [(tP 3 1 0), (tP 2 0 0)]
set_option maxRecDepth 100000 in
set_option maxHeartbeats 4000000 in
theorem control_Route_acts_ok (n : Nat) {h : Heap} {w : World} (hh : Has h w) (r_ : Route) {cs_r_ : List Value} (hx_r_ : rep h r_ cs_r_) (a : Acts) {cs_a : List Value} (hx_a : rep h a cs_a) {r : Int} (H : control_Route_acts n r_ a = some r) :
  Calls Try.prog 63 #[.agg cs_r_.toArray, .agg cs_a.toArray] w (Ret (fun h v => v = .int .i64 r) h w) := by
 obtain ⟨_, _, rfl, ⟨g, k, rfl, ae⟩, ⟨_, _, rfl, ⟨_, _, rfl, rfl, rfl⟩, ⟨_, _, rfl, ⟨b, d, rfl, ac⟩, ⟨_, _, rfl, ⟨i, l, rfl, af⟩, ⟨_, _, rfl, rfl, ⟨_, _, rfl, rfl, ⟨_, _, rfl, rfl, rfl⟩⟩⟩⟩⟩⟩⟩ := hx_r_
 obtain ⟨_, _, rfl, ⟨o, q, rfl, ah⟩, ⟨_, _, rfl, ⟨p, s, rfl, ai⟩, ⟨y, z, rfl, al⟩⟩⟩ := hx_a
 refine enter 65 [.agg (K63c4 g r_ k b d i l), .agg (K63c2 o a q p s y z)] Try.func63 rfl rfl rfl rfl fun t hk => ?_
 have hm := Mem.begin h w hh
 unfold control_Route_acts at H
 refine wp_seq (wp_region_from (wl fun K hK => ?_))
 refine wb (.agg (K63c4 g r_ k b d i l)) hk hm fun e d2 d7 (cw : Kn 65 [(e, 0)] [(tP 2 0 0), (tA 0 (K63c4 g r_ k b d i l)), (tA 1 (K63c2 o a q p s y z))] d2) (df : Mem ⟨w, h, noX⟩ h [(e, 0)] [⟨(K63c4 g r_ k b d i l), some 43⟩] [] d7) => hK _ _ ?_
 refine wl fun K hK => ?_
 refine wb (.agg (K63c2 o a q p s y z)) cw df fun f d3 d8 (cx : Kn 65 [(e, 0), (f, 0)] [(tP 3 1 0), (tP 2 0 0), (tA 0 (K63c4 g r_ k b d i l)), (tA 1 (K63c2 o a q p s y z))] d3) (a0 : Mem ⟨w, h, noX⟩ h [(e, 0), (f, 0)] [⟨(K63c4 g r_ k b d i l), some 43⟩, ⟨(K63c2 o a q p s y z), some 34⟩] [] d8) => hK _ _ ?_
 refine Rk 2 1 K63m6 cx a0 fun er cy => ?_
 refine wf (wp_seq (wp_seq (wp_region_from (Rk 0 1 ((tA 8 (K63c4 g r_ k b d i l)) :: K63m6) cy a0 fun es cz => ?_))))
 obtain ⟨x9, ex9, H⟩ := bnd H
 refine wl fun K hK => ?_
 refine wc [.agg (K63c4 g r_ k b d i l)] cz a0 (control_Route_check_ok n a0.has r_ ((rep_pair (rep_slice ae) (rep_pair (rep_pair rep_int rep_int) (rep_pair (rep_slice ac) (rep_pair (rep_slice af) (rep_pair rep_int (rep_pair rep_int (rep_pair rep_int rep_int))))))) : rep h r_ _) ex9) fun e5 b5 e8 b4 ap ab => ?_
 replace ae := ae.mono ap
 replace ac := ac.mono ap
 replace af := af.mono ap
 replace ah := ah.mono ap
 replace ai := ai.mono ap
 replace al := al.mono ap
 obtain rfl := b4
 refine ⟨.one (.c (.int .i64 x9)), rfl, fun d4 (c0 : Kn 65 [(e, 0), (f, 0)] ((tI 9 x9) :: (tA 8 (K63c4 g r_ k b d i l)) :: K63m6) d4) => hK _ _ ?_⟩
 refine Rk 2 1 ((tI 5 x9) :: K63m6) c0 ab fun et c1 => ?_
 refine wf (wp_seq (wp_region_from (Rk 0 2 ((tB 11 (x9 != 0)) :: (tI 5 x9) :: K63m6) c1 ab fun eu bb => ?_)))
 refine wf (wC ((x9 != 0)) bb (fun a7 => ?_) (fun a7 => ?_))
 ·
  rw [a7, cond_true] at H
  refine wp_seq (wp_region_from (Rk 0 2 [(tI 4 x9)] bb ab fun ev c2 => ?_))
  refine wf (wp_ret ?_)
  obtain rfl := Option.some.inj H
  exact rt (.one (.c (.int .i64 x9))) c2 ab rfl
 ·
  rw [a7, cond_false] at H
  refine wp_skip (wp_seq (wp_seq ?_))
  obtain ⟨bu, am, H⟩ := bnd H
  refine wp_mid' (fun a' w' => ∃ (bh : Array Value) (au : Heap), a' = ⟨bh, []⟩ ∧ Kn 65 [(e, 0), (f, 0)] [(tP 3 1 0), (tP 2 0 0), (tB 37 bu)] bh ∧ Mem ⟨w, h, noX⟩ au [(e, 0), (f, 0)] [⟨(K63c4 g r_ k b d i l), some 43⟩, ⟨(K63c2 o a q p s y z), some 34⟩] [] w' ∧ Heap.le b5 au) ?_ ?_
  ·
   refine wp_region_from (Rk 0 8 ((tB 20 (((a.holds.length : Nat) : Int) != ((r_.buses.length : Nat) : Int))) :: K63m6) bb ab fun bz bp => ?_)
   rcases Bool.eq_false_or_eq_true ((((a.holds.length : Nat) : Int) != ((r_.buses.length : Nat) : Int))) with aw | aw
   ·
    rw [aw, cond_true] at am
    have c3 : Kn 65 [(e, 0), (f, 0)] ((tB 20 true) :: K63m6) bz := (bp.setB 20 true (by rfl) aw).kp
    refine Rk 8 17 ((tB 37 true) :: K63m6) c3 ab fun ew c4 => ?_
    refine wf ?_
    obtain rfl := Option.some.inj am
    exact Exists.intro _ ⟨_, rfl, c4.kp, ab, (Heap.le_refl _)⟩
   ·
    rw [aw, cond_false] at am
    have c5 : Kn 65 [(e, 0), (f, 0)] ((tB 20 false) :: K63m6) bz := (bp.setB 20 false (by rfl) aw).kp
    refine Rk 8 9 ((tB 29 (((a.turns.length : Nat) : Int) != ((r_.buses.length : Nat) : Int))) :: K63m6) c5 ab fun b0 bq => ?_
    rcases Bool.eq_false_or_eq_true ((((a.turns.length : Nat) : Int) != ((r_.buses.length : Nat) : Int))) with ax | ax
    ·
     rw [ax, cond_true] at am
     have c6 : Kn 65 [(e, 0), (f, 0)] ((tB 29 true) :: K63m6) b0 := (bq.setB 29 true (by rfl) ax).kp
     refine Rk 17 8 ((tB 37 true) :: K63m6) c6 ab fun ex c7 => ?_
     refine wf ?_
     obtain rfl := Option.some.inj am
     exact Exists.intro _ ⟨_, rfl, c7.kp, ab, (Heap.le_refl _)⟩
    ·
     rw [ax, cond_false] at am
     have c8 : Kn 65 [(e, 0), (f, 0)] ((tB 29 false) :: K63m6) b0 := (bq.setB 29 false (by rfl) ax).kp
     refine Rk 17 8 ((tB 37 (((a.spares.length : Nat) : Int) != ((r_.spares.length : Nat) : Int))) :: K63m6) c8 ab fun ey c9 => ?_
     refine wf ?_
     obtain rfl := Option.some.inj am
     exact Exists.intro _ ⟨_, rfl, c9.kp, ab, (Heap.le_refl _)⟩
  ·
   rintro _ e9 ⟨bh, au, rfl, bc, a1, aq⟩
   replace ae := ae.mono aq
   replace ac := ac.mono aq
   replace af := af.mono aq
   replace ah := ah.mono aq
   replace ai := ai.mono aq
   replace al := al.mono aq
   refine wC (bu) bc (fun a8 => ?_) (fun a8 => ?_)
   ·
    rw [a8, cond_true] at H
    refine wp_seq (wp_region_from (Rk 0 1 [(tI 4 2)] bc a1 fun ez da => ?_))
    refine wf (wp_ret ?_)
    obtain rfl := Option.some.inj H
    exact rt (.one (.c (.int .i64 2))) da a1 rfl
   ·
    rw [a8, cond_false] at H
    refine wp_skip (wp_seq (wp_seq (wp_region_from (Rk 0 4 ((tI 41 0) :: (tI 40 ((r_.buses.length : Nat) : Int)) :: (tS 39 b r_.buses.length d) :: K63m6) bc a1 fun e0 db => ?_))))
    refine wf ?_
    obtain ⟨bv, bk, H⟩ := bnd H
    refine wp_mid' (fun a' w' => ∃ (bw : Unit) (bi : Array Value) (a5 : Heap), a' = ⟨bi, []⟩ ∧ Kn 65 [(e, 0), (f, 0)] [] bi ∧ Mem ⟨w, h, noX⟩ a5 [(e, 0), (f, 0)] [⟨(K63c4 g r_ k b d i l), some 43⟩, ⟨(K63c2 o a q p s y z), some 34⟩] [] w' ∧ Heap.le au a5 ∧ bv = .go bw) ?_ ?_
    ·
     refine wp_block ?_
     refine wp_loop_n (fun du a' w' => ∃ (x_v10 : Int) (bj : Array Value) (an : Heap), a' = ⟨bj, []⟩ ∧ Kn 65 [(e, 0), (f, 0)] (K63m5 x_v10 r_ b d) bj ∧ Mem ⟨w, h, noX⟩ an [(e, 0), (f, 0)] [⟨(K63c4 g r_ k b d i l), some 43⟩, ⟨(K63c2 o a q p s y z), some 34⟩] [] w' ∧ Heap.le au an ∧ control_Route_acts_l1 du r_ a x_v10 = some bv) n ?_ ?_
     ·
      exact Exists.intro 0 ⟨_, _, rfl, db.kp, a1, (Heap.le_refl _), bk⟩
     ·
      rintro az _ d9 ⟨x_v10, bj, an, rfl, dc, a2, aj, m⟩
      clear bk
      obtain _ | az := az
      ·
       rw [control_Route_acts_l1] at m; cases m
      rw [control_Route_acts_l1] at m
      replace ae := ae.mono aj
      replace ac := ac.mono aj
      replace af := af.mono aj
      replace ah := ah.mono aj
      replace ai := ai.mono aj
      replace al := al.mono aj
      refine wp_seq (wp_region_from (Rk 0 1 ((tB 42 (decide (x_v10 < ((r_.buses.length : Nat) : Int)))) :: (K63m5 x_v10 r_ b d)) dc a2 fun e1 bd => ?_))
      refine wf (wp_seq (wC (decide (x_v10 < ((r_.buses.length : Nat) : Int))) bd (fun a9 => ?_) (fun a9 => ?_)))
      ·
       rw [a9, cond_true] at m
       refine wp_skip (wp_seq (wp_block (wp_seq (wp_region_from (Rk 0 1 ((tI 43 x_v10) :: (K63m5 x_v10 r_ b d)) bd a2 fun e2 dd => ?_)))))
       obtain ⟨x44, ex44, m⟩ := bnd m
       obtain ⟨dg, dj, dr⟩ := idx_some ex44
       obtain ⟨u, x, ec, b8, dm, b9⟩ := ac.get (by decide) dr
       obtain ⟨_, _, rfl, rfl, ⟨_, _, rfl, rfl, rfl⟩⟩ := dm
       have br : Mem ⟨w, h, noX⟩ an [(e, 0), (f, 0), (u, x + (x_v10 : Int).toNat * 3)] [⟨(K63c4 g r_ k b d i l), some 43⟩, ⟨(K63c2 o a q p s y z), some 34⟩, ⟨(K63c1 x44), none⟩] [] d9 := a2.addPlc (cs := (K63c1 x44)) (fun j c hj => b9 j _ (map_get hj)) rfl (by kernel_rfl) (by kernel_rfl)
       refine R_index 1 (x_v10) rfl rfl (rfl) rfl (by decide) dd (by rfl) (by rfl) (by rfl) b8 (by rfl) dg dj (by kernel_rfl) fun dv (cc : Kn 65 [(e, 0), (f, 0), (u, x + (x_v10 : Int).toNat * 3)] ((tP 44 2 0) :: (tI 43 x_v10) :: (K63m5 x_v10 r_ b d)) dv) => ?_
       refine Rk 2 1 ((tA 45 (K63c1 x44)) :: (tI 43 x_v10) :: (K63m5 x_v10 r_ b d)) cc br fun ef cd => ?_
       refine wl fun K hK => ?_
       refine wa [.int .i64 0, .int .i64 0, .int .i64 0] cd br fun aa dw d5 (ce : Kn 65 [(e, 0), (f, 0), (u, x + (x_v10 : Int).toNat * 3), (aa, 0)] ((tP 7 3 0) :: (tA 45 (K63c1 x44)) :: (tI 43 x_v10) :: (K63m5 x_v10 r_ b d)) dw) (bs : Mem ⟨w, h, noX⟩ an [(e, 0), (f, 0), (u, x + (x_v10 : Int).toNat * 3), (aa, 0)] [⟨(K63c4 g r_ k b d i l), some 43⟩, ⟨(K63c2 o a q p s y z), some 34⟩, ⟨(K63c1 x44), none⟩, ⟨[.int .i64 0, .int .i64 0, .int .i64 0], some 96⟩] [] d5) => hK _ _ ?_
       refine Rk 4 1 ((tI 6 x_v10) :: (tP 7 3 0) :: (tA 45 (K63c1 x44)) :: (K63m5 x_v10 r_ b d)) ce bs fun dx cf => ?_
       refine wl fun K hK => ?_
       refine wst 3 0 (.agg (K63c1 x44)) (K63c1 x44) cf bs fun b1 cg (ay : Mem ⟨w, h, noX⟩ an [(e, 0), (f, 0), (u, x + (x_v10 : Int).toNat * 3), (aa, 0)] [⟨(K63c4 g r_ k b d i l), some 43⟩, ⟨(K63c2 o a q p s y z), some 34⟩, ⟨(K63c1 x44), none⟩, ⟨(K63c1 x44), some 96⟩] [] b1) => hK _ _ ?_
       have ch : Kn 65 [(e, 0), (f, 0), (u, x + (x_v10 : Int).toNat * 3), (aa, 0)] ((tI 6 x_v10) :: (tP 7 3 0) :: (K63m5 x_v10 r_ b d)) dx := cg.kp
       refine wf (wp_seq (wp_region_G (by kernel_rfl) ?_))
       replace ay := ay.drew
       refine wpG_of_D [] [(e, 0), (f, 0), (u, x + (x_v10 : Int).toNat * 3), (aa, 0)] [⟨(K63c4 g r_ k b d i l), some 43⟩, ⟨(K63c2 o a q p s y z), some 34⟩, ⟨(K63c1 x44), none⟩, ⟨(K63c1 x44), some 96⟩] ?_
       refine Dr [0, 1, 2] [2, 1, 0] ((tI 48 x_v10) :: (tS 47 o a.holds.length q) :: (tI 6 x_v10) :: (tP 7 3 0) :: (K63m5 x_v10 r_ b d)) ch ay fun eg ci => ?_
       obtain ⟨x49, ex49, m⟩ := bnd m
       obtain ⟨dh, dk, ds⟩ := idx_some ex49
       obtain ⟨ad, ag, ea, b6, dp, ca⟩ := ah.get (by decide) ds
       obtain rfl := dp
       have be : Mem ⟨w, h, noX⟩ an (K63e3 e f u x x_v10 aa ad ag) [⟨(K63c4 g r_ k b d i l), some 43⟩, ⟨(K63c2 o a q p s y z), some 34⟩, ⟨(K63c1 x44), none⟩, ⟨(K63c1 x44), some 96⟩, ⟨[.int .i64 x49], none⟩] [] (World.drew b1) := ay.addPlc (cs := [.int .i64 x49]) (fun j c hj => ca j _ (map_get hj)) rfl (by kernel_rfl) (by kernel_rfl)
       refine D_index 3 (x_v10) [.int .i64 x49] (fun _ _ _ _ _ h => h) rfl rfl (rfl) rfl (by decide) (by kernel_rfl) (by kernel_rfl) ci ay.plOk (by rfl) (by rfl) (by rfl) b6 (by rfl) dh dk (by kernel_rfl) fun dy (cj : Kn 65 (K63e3 e f u x x_v10 aa ad ag) ((tP 49 4 0) :: (tI 48 x_v10) :: (tS 47 o a.holds.length q) :: (tI 6 x_v10) :: (tP 7 3 0) :: (K63m5 x_v10 r_ b d)) dy) => ?_
       refine Dr [4] (dn 4) ((tI 50 x49) :: (tI 6 x_v10) :: (tP 7 3 0) :: (K63m5 x_v10 r_ b d)) cj be fun eh ck => ?_
       obtain ⟨x51, ex51, m⟩ := bnd m
       refine Dl 5 fun K hK => ?_
       refine wc [.c (.int .i64 x49), .c (.int .i64 0), .c (.int .i64 2)] ck be (control_within_ok az be.has x49 0 2 ex51) fun e3 a4 d6 b2 ao ak => ?_
       replace ae := ae.mono ao
       replace ac := ac.mono ao
       replace af := af.mono ao
       replace ah := ah.mono ao
       replace ai := ai.mono ao
       replace al := al.mono ao
       obtain rfl := b2
       refine ⟨.one (.c (.bool x51)), rfl, fun dz (cl : Kn 65 (K63e3 e f u x x_v10 aa ad ag) ((tB 51 x51) :: (tI 50 x49) :: (tI 6 x_v10) :: (tP 7 3 0) :: (K63m5 x_v10 r_ b d)) dz) => hK _ _ ak.plOk ?_⟩
       refine Dr [6, 7] (dn 7) ((tB 53 (!x51)) :: (tI 6 x_v10) :: (tP 7 3 0) :: (K63m5 x_v10 r_ b d)) cl ak fun bx bl => ?_
       rcases Bool.eq_false_or_eq_true ((!x51)) with av | av
       ·
        rw [av, cond_true] at m
        have cm : Kn 65 (K63e3 e f u x x_v10 aa ad ag) ((tB 53 true) :: (tI 6 x_v10) :: (tP 7 3 0) :: (K63m5 x_v10 r_ b d)) bx := (bl.setB 53 true (by rfl) av).kp
        refine Dr [8, 9, 10, 11, 12, 13, 14, 15, 16, 17] (dn 17) ((tB 63 true) :: (K63m5 x_v10 r_ b d)) cm ak fun ei bm => ?_
        refine wpD_end (by kernel_rfl) (wC true bm (fun hb => ?_) (fun hb => ?_))
        rotate_left
        ·
         cases hb
        refine wp_seq (wp_region_from (Rk 0 1 [(tI 4 2)] bm ak fun ej cn => ?_))
        refine wf (wp_ret ?_)
        obtain rfl := Option.some.inj m
        obtain rfl := Option.some.inj H
        exact rt (.one (.c (.int .i64 2))) cn ak rfl
       ·
        rw [av, cond_false] at m
        have co : Kn 65 (K63e3 e f u x x_v10 aa ad ag) ((tB 53 false) :: (tI 6 x_v10) :: (tP 7 3 0) :: (K63m5 x_v10 r_ b d)) bx := (bl.setB 53 false (by rfl) av).kp
        refine Dr [8, 9, 10, 11, 12] (dn 12) ((tI 58 x_v10) :: (tS 57 p a.turns.length s) :: (tA 55 (K63c1 x44)) :: (tA 54 (K63c4 g r_ k b d i l)) :: (tB 53 false) :: (K63m5 x_v10 r_ b d)) co ak fun ek bn => ?_
        obtain ⟨x59, ex59, m⟩ := bnd m
        obtain ⟨di, dl, dt⟩ := idx_some ex59
        obtain ⟨a3, bg, eb, b7, dq, cb⟩ := ai.get (by decide) dt
        obtain rfl := dq
        have bf : Mem ⟨w, h, noX⟩ a4 [(e, 0), (f, 0), (u, x + (x_v10 : Int).toNat * 3), (aa, 0), (ad, ag + (x_v10 : Int).toNat * 1), (a3, bg + (x_v10 : Int).toNat * 1)] [⟨(K63c4 g r_ k b d i l), some 43⟩, ⟨(K63c2 o a q p s y z), some 34⟩, ⟨(K63c1 x44), none⟩, ⟨(K63c1 x44), some 96⟩, ⟨[.int .i64 x49], none⟩, ⟨[.int .i64 x59], none⟩] [] d6 := ak.addPlc (cs := [.int .i64 x59]) (fun j c hj => cb j _ (map_get hj)) rfl (by kernel_rfl) (by kernel_rfl)
        refine D_index 13 (x_v10) [.int .i64 x59] (fun _ _ _ _ _ h => h) rfl rfl (wantedS_sound bn (by kernel_rfl)) rfl (by decide) (by kernel_rfl) (by kernel_rfl) bn ak.plOk (by rfl) (by rfl) (by rfl) b7 (by rfl) di dl (by kernel_rfl) fun d0 (cp : Kn 65 [(e, 0), (f, 0), (u, x + (x_v10 : Int).toNat * 3), (aa, 0), (ad, ag + (x_v10 : Int).toNat * 1), (a3, bg + (x_v10 : Int).toNat * 1)] ((tP 59 5 0) :: (tI 58 x_v10) :: (tS 57 p a.turns.length s) :: (tA 55 (K63c1 x44)) :: (tA 54 (K63c4 g r_ k b d i l)) :: (tB 53 false) :: (K63m5 x_v10 r_ b d)) d0) => ?_
        refine Dr [14] (dn 14) ((tI 60 x59) :: (tA 55 (K63c1 x44)) :: (tA 54 (K63c4 g r_ k b d i l)) :: (tB 53 false) :: (K63m5 x_v10 r_ b d)) cp bf fun el bo => ?_
        obtain ⟨x61, ex61, m⟩ := bnd m
        refine D_loud 15 rfl (by kernel_rfl) (by decide) (wantedS_sound bo (by kernel_rfl)) fun K hK => ?_
        refine wc [.agg (K63c4 g r_ k b d i l), .agg (K63c1 x44), .c (.int .i64 x59)] bo bf (control_Route_turns_ok az bf.has r_ ((rep_pair (rep_slice ae) (rep_pair (rep_pair rep_int rep_int) (rep_pair (rep_slice ac) (rep_pair (rep_slice af) (rep_pair rep_int (rep_pair rep_int (rep_pair rep_int rep_int))))))) : rep a4 r_ _) x44 ((rep_pair rep_int (rep_pair rep_int rep_int)) : rep a4 x44 _) x59 ex61) fun e4 ed e6 b3 de ar => ?_
        obtain rfl := b3
        refine ⟨.one (.c (.bool x61)), rfl, fun d1 (cq : Kn 65 [(e, 0), (f, 0), (u, x + (x_v10 : Int).toNat * 3), (aa, 0), (ad, ag + (x_v10 : Int).toNat * 1), (a3, bg + (x_v10 : Int).toNat * 1)] ((tB 61 x61) :: (tI 60 x59) :: (tA 55 (K63c1 x44)) :: (tA 54 (K63c4 g r_ k b d i l)) :: (tB 53 false) :: (K63m5 x_v10 r_ b d)) d1) => hK _ _ ar.plOk ?_⟩
        refine Dr [16, 17] (dn 17) ((tB 63 (!x61)) :: (K63m5 x_v10 r_ b d)) cq ar fun em ba => ?_
        refine wpD_end (by kernel_rfl) (wC ((!x61)) ba (fun a6 => ?_) (fun a6 => ?_))
        ·
         rw [a6, cond_true] at m
         refine wp_seq (wp_region_from (Rk 0 1 [(tI 4 2)] ba ar fun en cr => ?_))
         refine wf (wp_ret ?_)
         obtain rfl := Option.some.inj m
         obtain rfl := Option.some.inj H
         exact rt (.one (.c (.int .i64 2))) cr ar rfl
        ·
         rw [a6, cond_false] at m
         refine wp_skip (wp_region_from (Rk 0 2 ((tI 41 (IntKind.i64.wrap (x_v10 + 1))) :: (tI 40 ((r_.buses.length : Nat) : Int)) :: (tS 39 b r_.buses.length d) :: K63m6) ba ar fun eo ct => ?_))
         refine wf ?_
         exact Exists.intro az ⟨Nat.lt_succ_self _, Exists.intro (IntKind.i64.wrap (x_v10 + 1)) ⟨_, _, rfl, ((ct.keep [41, 40, 39, 3, 2] (by rfl)).cut 2 (by kernel_rfl)), (ar.cutPl 2 (by kernel_rfl)), (Heap.le_trans aj (Heap.le_trans ao de)), m⟩⟩
      ·
       rw [a9, cond_false] at m
       refine wp_exit ?_
       obtain rfl := Option.some.inj m
       exact Exists.intro () ⟨_, _, rfl, bd.kp, a2, aj, rfl⟩
    ·
     rintro _ e7 ⟨bw, bi, a5, rfl, cu, bt, ee, rfl⟩
     rw [Ex.bind_go] at H
     refine wp_seq (wp_region_from (Rk 0 1 [(tI 4 0)] cu bt fun ep cv => ?_))
     refine wf (wp_ret ?_)
     obtain rfl := Option.some.inj H
     exact rt (.one (.c (.int .i64 0))) cv bt rfl
end Go.Proofs.Ytokchpjijlebiaa
