/- Each call computes its plain function. -/
import Derived.Test.YthcbemnflgjadaaProg
import Derived.Test.YthcbemnflgjadaaNmP0
set_option linter.all false
namespace Go.Proofs.Ythcbemnflgjadaa
open Go Go.RowKit
open Rep (rep)
open KRep (kv)
open VRep (rv)
set_option maxRecDepth 100000 in
set_option maxHeartbeats 4000000 in
theorem lane_within_ok (n : Nat) {h : Heap} {w : World} (hh : Has h w) (n_ : Int) (low : Int) (high : Int) {r : Bool} (H : lane_within n n_ low high = some r) :
  Calls Try.prog 70 #[.int .i64 n_, .int .i64 low, .int .i64 high] w (Ret (fun h v => v = .bool r) h w) := by
 refine enter 15 [.c (.int .i64 n_), .c (.int .i64 low), .c (.int .i64 high)] Try.func70 rfl rfl rfl rfl fun t hk => ?_
 have hm := Mem.begin h w hh
 unfold lane_within at H
 refine wp_seq (wp_region_from (Rk 0 1 [(tI 0 n_), (tI 1 low), (tI 2 high)] hk hm fun k f => ?_))
 refine wf (wp_seq (wp_region_from (Rk 0 4 [(tB 10 (decide (low ≤ n_))), (tI 0 n_), (tI 2 high)] f hm fun d b => ?_)))
 rcases Bool.eq_false_or_eq_true (decide (low ≤ n_)) with a | a
 ·
  rw [a, cond_true] at H
  have g : Kn 15 [] [(tB 10 true), (tI 0 n_), (tI 2 high)] d := (b.setB 10 true (by rfl) a).kp
  refine Rk 4 5 [(tB 6 (decide (n_ ≤ high)))] g hm fun m i => ?_
  refine wf (wp_ret ?_)
  obtain rfl := Option.some.inj H
  exact rt (.one (.c (.bool (decide (n_ ≤ high))))) i hm rfl
 ·
  rw [a, cond_false] at H
  have j : Kn 15 [] [(tB 10 false), (tI 0 n_), (tI 2 high)] d := (b.setB 10 false (by rfl) a).kp
  refine Rk 4 5 [(tB 6 false)] j hm fun l e => ?_
  refine wf (wp_ret ?_)
  obtain rfl := Option.some.inj H
  exact rt (.one (.c (.bool false))) e hm rfl
set_option maxRecDepth 100000 in
set_option maxHeartbeats 4000000 in
theorem lane_all_int_1_ok (n : Nat) {h : Heap} {w : World} (hh : Has h w) (x : Int) (q0 : Int → Option Bool) {b_q0 : Nat} (hb_q0 : BoxS h b_q0 q0) {r : Bool} (H : lane_all_int_1 n x q0 = some r) :
  Calls Try.prog 94 #[.int .i64 x, .pointer (some ⟨b_q0, 0, none⟩)] w (Ret (fun h v => v = .bool r) h w) := by
 obtain ⟨_, hx_q0, hc_q0⟩ := id hb_q0
 obtain ⟨d, a, b, rfl, i⟩ := hx_q0
 refine enter' (e := [(b_q0, 0)]) 8 [.c (.int .i64 x), .c (.ptr 0 0)] Try.func94 rfl rfl rfl rfl fun t hk => ?_
 have hm := Mem.begin h w hh
 replace hm := hm.addPlc (o := 0) (cs := [.func d a b]) (fun j c hj => by rw [Nat.zero_add]; exact hc_q0 j _ (map_get hj)) rfl (by kernel_rfl) (by kernel_rfl)
 replace hm : Mem ⟨w, h, noX⟩ h [(b_q0, 0)] [⟨[.func d a b], none⟩] [] w := hm
 unfold lane_all_int_1 at H
 refine wp_seq (wp_region_from (Rk 0 1 [(tI 0 x), (tP 1 0 0)] hk hm fun z m => ?_))
 refine wf (wp_seq (wp_region_from (Rk 0 2 [(tI 5 x), (4, .one (.c (.func d a b)))] m hm fun aa p => ?_)))
 obtain ⟨x6, ex6, H⟩ := bnd H
 refine wl fun K hK => ?_
 refine wp_callV (.func d a b) [.c (.int .i64 x)] _ p hm rfl rfl (by decide) (by rfl) (by rfl) rfl (i _ _ (Heap.le_refl _) hm.has x _ ex6) fun ab s ac g u f => ?_
 obtain rfl := g
 refine ⟨.one (.c (.bool x6)), rfl, fun q (k : Kn 8 [(b_q0, 0)] [(tB 6 x6), (tI 5 x), (4, .one (.c (.func d a b)))] q) => hK _ _ ?_⟩
 refine Rk 3 2 [(tB 3 (!x6))] k f fun y l => ?_
 refine wf (wp_ret ?_)
 obtain rfl := Option.some.inj H
 exact rt (.one (.c (.bool (!x6)))) l f rfl
abbrev K114m1 (s : List Int) (a_s : Option Addr) (c_s : Nat) (fn_f : Fn) (fa_f fc_f : Array Value) : TM := [(tI 7 ((s.length : Nat) : Int)), (tS 0 a_s s.length c_s), (1, .one (.c (.func fn_f fa_f fc_f)))]
set_option maxRecDepth 100000 in
set_option maxHeartbeats 4000000 in
theorem slices_IndexFunc_int_int_ok (n : Nat) {h : Heap} {w : World} (hh : Has h w) (s : List Int) {a_s : Option Addr} {c_s : Nat} (hr_s : RepS h a_s c_s s) (f : Int → Option Bool) {fn_f : Fn} {fa_f fc_f : Array Value} (hf_f : Fn1 h (.func fn_f fa_f fc_f) f) {r : Int} (H : slices_IndexFunc_int_int n s f = some r) :
  Calls Try.prog 114 #[.slice a_s s.length c_s, .func fn_f fa_f fc_f] w (Ret (fun h v => v = .int .i64 r) h w) := by
 refine enter 19 [.c (.slice a_s s.length c_s), .c (.func fn_f fa_f fc_f)] Try.func114 rfl rfl rfl rfl fun t hk => ?_
 have hm := Mem.begin h w hh
 unfold slices_IndexFunc_int_int at H
 refine wp_seq (wp_region_from (Rk 0 1 [(tS 0 a_s s.length c_s), (1, .one (.c (.func fn_f fa_f fc_f)))] hk hm fun a8 al => ?_))
 refine wf (wp_seq (wp_seq (wp_region_from (Rk 0 3 ((tI 8 0) :: (K114m1 s a_s c_s fn_f fa_f fc_f)) al hm fun bc ap => ?_))))
 refine wf ?_
 obtain ⟨ae, ac, H⟩ := bnd H
 refine wp_mid' (fun a' w' => ∃ (af : Unit) (ab : Array Value) (m : Heap), a' = ⟨ab, []⟩ ∧ Kn 19 [] [] ab ∧ Mem ⟨w, h, noX⟩ m [] [] [] w' ∧ Heap.le h m ∧ ae = .go af) ?_ ?_
 ·
  refine wp_block ?_
  refine wp_loop_n (fun a3 a' w' => ∃ (x_v10 : Int) (aa : Array Value) (l : Heap), a' = ⟨aa, []⟩ ∧ Kn 19 [] ((tI 8 x_v10) :: (K114m1 s a_s c_s fn_f fa_f fc_f)) aa ∧ Mem ⟨w, h, noX⟩ l [] [] [] w' ∧ Heap.le h l ∧ slices_IndexFunc_int_int_l1 a3 s f x_v10 = some ae) n ?_ ?_
  ·
   exact Exists.intro 0 ⟨_, _, rfl, ap.kp, hm, (Heap.le_refl _), ac⟩
  ·
   rintro z _ bi ⟨x_v10, aa, l, rfl, ak, d, g, a⟩
   clear ac
   obtain _ | z := z
   ·
    rw [slices_IndexFunc_int_int_l1] at a; cases a
   rw [slices_IndexFunc_int_int_l1] at a
   replace hr_s := hr_s.mono g
   replace hf_f := hf_f.mono g
   refine wp_seq (wp_region_from (Rk 0 1 ((tB 9 (decide (x_v10 < ((s.length : Nat) : Int)))) :: (tI 8 x_v10) :: (K114m1 s a_s c_s fn_f fa_f fc_f)) ak d fun a9 u => ?_))
   refine wf (wp_seq (wC (decide (x_v10 < ((s.length : Nat) : Int))) u (fun p => ?_) (fun p => ?_)))
   ·
    rw [p, cond_true] at a
    refine wp_skip (wp_seq (wp_block (wp_seq (wp_region_from (Rk 0 2 ((tI 5 x_v10) :: (tI 8 x_v10) :: (K114m1 s a_s c_s fn_f fa_f fc_f)) u d fun ba am => ?_)))))
    refine wf (wp_seq (wp_region_from (Rk 0 3 ((tI 13 x_v10) :: (tS 12 a_s s.length c_s) :: (11, .one (.c (.func fn_f fa_f fc_f))) :: (tI 5 x_v10) :: (tI 8 x_v10) :: (K114m1 s a_s c_s fn_f fa_f fc_f)) am d fun bb an => ?_)))
    obtain ⟨x14, ex14, a⟩ := bnd a
    obtain ⟨az, a0, a2⟩ := idx_some ex14
    obtain ⟨e, k, a5, ai, a1, aj⟩ := hr_s.get (by decide) a2
    obtain rfl := a1
    have y := d.addPlc (b := e) (o := k + (x_v10 : Int).toNat * 1) (cs := [.int .i64 x14]) (fun j c hj => aj j _ (map_get hj)) rfl (by kernel_rfl) (by kernel_rfl)
    refine R_index 3 (x_v10) rfl rfl (rfl) rfl (by decide) an (by rfl) (by rfl) (by rfl) ai (by rfl) az a0 (by kernel_rfl) fun a4 (ao : Kn 19 [(e, k + (x_v10 : Int).toNat * 1)] ((tP 14 0 0) :: (tI 13 x_v10) :: (tS 12 a_s s.length c_s) :: (11, .one (.c (.func fn_f fa_f fc_f))) :: (tI 5 x_v10) :: (tI 8 x_v10) :: (K114m1 s a_s c_s fn_f fa_f fc_f)) a4) => ?_
    refine Rk 4 1 ((tI 15 x14) :: (11, .one (.c (.func fn_f fa_f fc_f))) :: (tI 5 x_v10) :: (tI 8 x_v10) :: (K114m1 s a_s c_s fn_f fa_f fc_f)) ao y fun bd aq => ?_
    obtain ⟨x16, ex16, a⟩ := bnd a
    refine wl fun K hK => ?_
    refine wp_callV (.func fn_f fa_f fc_f) [.c (.int .i64 x14)] _ aq y rfl rfl (by decide) (by rfl) (by rfl) rfl (hf_f _ _ (Heap.le_refl _) y.has x14 _ ex16) fun bh a6 bj ah ay i => ?_
    obtain rfl := ah
    refine ⟨.one (.c (.bool x16)), rfl, fun ag (ar : Kn 19 [(e, k + (x_v10 : Int).toNat * 1)] ((tB 16 x16) :: (tI 15 x14) :: (11, .one (.c (.func fn_f fa_f fc_f))) :: (tI 5 x_v10) :: (tI 8 x_v10) :: (K114m1 s a_s c_s fn_f fa_f fc_f)) ag) => hK _ _ ?_⟩
    have x : Kn 19 [(e, k + (x_v10 : Int).toNat * 1)] ((tB 16 x16) :: (tI 5 x_v10) :: (tI 8 x_v10) :: (K114m1 s a_s c_s fn_f fa_f fc_f)) ag := ar.kp
    refine wf (wC (x16) x (fun q => ?_) (fun q => ?_))
    ·
     rw [cond_t q] at a
     refine wp_seq (wp_region_from (Rk 0 2 [(tI 4 x_v10)] x i fun be au => ?_))
     refine wf (wp_ret ?_)
     obtain rfl := Option.some.inj a
     obtain rfl := Option.some.inj H
     exact rt (.one (.c (.int .i64 x_v10))) au i rfl
    ·
     rw [cond_f q] at a
     refine wp_skip (wp_region_from (Rk 0 2 ((tI 8 (IntKind.i64.wrap (x_v10 + 1))) :: (K114m1 s a_s c_s fn_f fa_f fc_f)) x i fun bf av => ?_))
     refine wf ?_
     exact Exists.intro z ⟨Nat.lt_succ_self _, Exists.intro (IntKind.i64.wrap (x_v10 + 1)) ⟨_, _, rfl, ((av.keep [8, 7, 0, 1] (by rfl)).cut 0 (by kernel_rfl)), (i.cutPl 0 (by kernel_rfl)), (Heap.le_trans g ay), a⟩⟩
   ·
    rw [p, cond_false] at a
    refine wp_exit ?_
    obtain rfl := Option.some.inj a
    exact Exists.intro () ⟨_, _, rfl, u.kp, d, g, rfl⟩
 ·
  rintro _ bk ⟨af, ab, m, rfl, aw, ad, a7, rfl⟩
  rw [Ex.bind_go] at H
  refine wp_seq (wp_region_from (Rk 0 1 [(tI 4 (-1))] aw ad fun bg ax => ?_))
  refine wf (wp_ret ?_)
  obtain rfl := Option.some.inj H
  exact rt (.one (.c (.int .i64 (-1)))) ax ad rfl
set_option maxRecDepth 100000 in
set_option maxHeartbeats 4000000 in
theorem slices_ContainsFunc_int_int_ok (n : Nat) {h : Heap} {w : World} (hh : Has h w) (s : List Int) {a_s : Option Addr} {c_s : Nat} (hr_s : RepS h a_s c_s s) (f : Int → Option Bool) {fn_f : Fn} {fa_f fc_f : Array Value} (hf_f : Fn1 h (.func fn_f fa_f fc_f) f) {r : Bool} (H : slices_ContainsFunc_int_int n s f = some r) :
  Calls Try.prog 93 #[.slice a_s s.length c_s, .func fn_f fa_f fc_f] w (Ret (fun h v => v = .bool r) h w) := by
 refine enter 9 [.c (.slice a_s s.length c_s), .c (.func fn_f fa_f fc_f)] Try.func93 rfl rfl rfl rfl fun t hk => ?_
 have hm := Mem.begin h w hh
 unfold slices_ContainsFunc_int_int at H
 refine wp_seq (wp_region_from (Rk 0 1 [(tS 0 a_s s.length c_s), (1, .one (.c (.func fn_f fa_f fc_f)))] hk hm fun m g => ?_))
 refine wf (wp_seq (wp_region_from (Rk 0 2 [(6, .one (.c (.func fn_f fa_f fc_f))), (tS 5 a_s s.length c_s)] g hm fun p i => ?_)))
 obtain ⟨x7, ex7, H⟩ := bnd H
 refine wl fun K hK => ?_
 refine wc [.c (.slice a_s s.length c_s), .c (.func fn_f fa_f fc_f)] i hm (slices_IndexFunc_int_int_ok n hm.has s hr_s f hf_f ex7) fun q k u b l a => ?_
 obtain rfl := b
 refine ⟨.one (.c (.int .i64 x7)), rfl, fun j (d : Kn 9 [] [(tI 7 x7), (6, .one (.c (.func fn_f fa_f fc_f))), (tS 5 a_s s.length c_s)] j) => hK _ _ ?_⟩
 refine Rk 3 2 [(tB 4 (decide (x7 ≥ 0)))] d a fun o e => ?_
 refine wf (wp_ret ?_)
 obtain rfl := Option.some.inj H
 exact rt (.one (.c (.bool (decide (x7 ≥ 0))))) e a rfl
set_option maxRecDepth 100000 in
set_option maxHeartbeats 4000000 in
theorem lane_all_int_ok (n : Nat) {h : Heap} {w : World} (hh : Has h w) (l : List Int) {a_l : Option Addr} {c_l : Nat} (hr_l : RepS h a_l c_l l) (right : Int → Option Bool) {fn_right : Fn} {fa_right fc_right : Array Value} (hf_right : Fn1 h (.func fn_right fa_right fc_right) right) {r : Bool} (H : lane_all_int n l right = some r) :
  Calls Try.prog 71 #[.slice a_l l.length c_l, .func fn_right fa_right fc_right] w (Ret (fun h v => v = .bool r) h w) := by
 refine enter 9 [.c (.slice a_l l.length c_l), .c (.func fn_right fa_right fc_right)] Try.func71 rfl rfl rfl rfl fun t hk => ?_
 have hm := Mem.begin h w hh
 unfold lane_all_int at H
 refine wp_seq (wp_region_from (wl fun K hK => ?_))
 refine wb (.c (.func fn_right fa_right fc_right)) hk hm fun a aa ac (u : Kn 9 [(a, 0)] [(tP 3 0 0), (tS 0 a_l l.length c_l), (1, .one (.c (.func fn_right fa_right fc_right)))] aa) f => hK _ _ ?_
 refine Rk 1 1 [(tP 3 0 0), (tS 0 a_l l.length c_l)] u f fun ah x => ?_
 refine wf (wp_seq (wp_region_from (Rk 0 1 [(tS 5 a_l l.length c_l), (tP 3 0 0)] x f fun ai y => ?_)))
 obtain ⟨b, j, g, d⟩ := f.settlePlc (i := 0) rfl
 replace hr_l := hr_l.mono j
 replace hf_right := hf_right.mono j
 replace d : Mem ⟨w, h, noX⟩ b [(a, 0)] [⟨[.func fn_right fa_right fc_right], none⟩] [] ac := d
 have o : BoxS b a (right : Int → Option Bool) := BoxS.of (e := [(a, 0)]) (cs := [.func fn_right fa_right fc_right]) (⟨_, _, _, rfl, hf_right⟩ : rep b (right : Int → Option Bool) _) rfl g
 have ae : CellsAt b a [.func fn_right fa_right fc_right] := CellsAt.of (e := [(a, 0)]) (cs := [.func fn_right fa_right fc_right]) rfl g
 refine R_func 1 #[] #[.pointer (some ⟨a, 0, none⟩)] y rfl rfl (rfl) rfl (by decide) (by rfl) (by rfl) (by rfl) (by rfl) fun z (p : Kn 9 [(a, 0)] [(6, .one (.c (.func (.func 94) #[] #[.pointer (some ⟨a, 0, none⟩)]))), (tS 5 a_l l.length c_l), (tP 3 0 0)] z) => ?_
 obtain ⟨x7, ex7, H⟩ := bnd H
 refine wl fun K hK => ?_
 refine wc [.c (.slice a_l l.length c_l), .c (.func (.func 94) #[] #[.pointer (some ⟨a, 0, none⟩)])] p d (slices_ContainsFunc_int_int_ok n d.has l hr_l (fun (y0 : Int) => lane_all_int_1 n y0 right) (show Fn1 b (.func (.func 94) #[] #[.pointer (some ⟨a, 0, none⟩)]) (fun (y0 : Int) => lane_all_int_1 n y0 right) from fun h2 w2 hle hh y0 r H => ⟨94, _, _, rfl, fun _ _ => by kernel_rfl, lane_all_int_1_ok n hh y0 right (o.mono hle) H⟩) ex7) fun aj ad ak m af k => ?_
 obtain rfl := m
 refine ⟨.one (.c (.bool x7)), rfl, fun ab (q : Kn 9 [(a, 0)] [(tB 7 x7), (6, .one (.c (.func (.func 94) #[] #[.pointer (some ⟨a, 0, none⟩)]))), (tS 5 a_l l.length c_l), (tP 3 0 0)] ab) => hK _ _ ?_⟩
 refine Rk 3 2 [(tB 4 (!x7))] q k fun ag s => ?_
 refine wf (wp_ret ?_)
 obtain rfl := Option.some.inj H
 exact rt (.one (.c (.bool (!x7)))) s k rfl
set_option maxRecDepth 100000 in
set_option maxHeartbeats 4000000 in
theorem lane_Bus_valid_ok (n : Nat) {h : Heap} {w : World} (hh : Has h w) (b : Bus) {cs_b : List Value} (hx_b : rep h b cs_b) {r : Bool} (H : lane_Bus_valid n b = some r) :
  Calls Try.prog 73 #[.agg cs_b.toArray] w (Ret (fun h v => v = .bool r) h w) := by
 obtain ⟨_, _, rfl, rfl, ⟨_, _, rfl, rfl, rfl⟩⟩ := hx_b
 refine enter 18 [.agg [.int .i64 b.lo, .int .i64 b.hi, .int .i64 b.turn]] Try.func73 rfl rfl rfl rfl fun t hk => ?_
 have hm := Mem.begin h w hh
 unfold lane_Bus_valid at H
 refine wp_seq (wp_region_from (wl fun K hK => ?_))
 refine wb (.agg [.int .i64 b.lo, .int .i64 b.hi, .int .i64 b.turn]) hk hm fun d ai az (ab : Kn 18 [(d, 0)] [(tP 1 0 0), (tA 0 [.int .i64 b.lo, .int .i64 b.hi, .int .i64 b.turn])] ai) g => hK _ _ ?_
 refine Rk 1 1 [(tP 1 0 0)] ab g fun au af => ?_
 refine wf (wp_seq (wp_region_from (Rk 0 4 [(tI 6 b.hi), (tI 4 b.lo), (tP 1 0 0)] af g fun av ag => ?_)))
 obtain ⟨x7, ex7, H⟩ := bnd H
 refine wl fun K hK => ?_
 refine wc [.c (.int .i64 b.lo), .c (.int .i64 0), .c (.int .i64 b.hi)] ag g (lane_within_ok n g.has b.lo 0 b.hi ex7) fun aw ak ay p am a => ?_
 obtain rfl := p
 refine ⟨.one (.c (.bool x7)), rfl, fun ah (s : Kn 18 [(d, 0)] [(tB 7 x7), (tI 6 b.hi), (tI 4 b.lo), (tP 1 0 0)] ah) => hK _ _ ?_⟩
 refine Rk 5 1 [(tB 8 x7), (tP 1 0 0)] s a fun m i => ?_
 rcases Bool.eq_false_or_eq_true (x7) with e | e
 ·
  rw [cond_t e] at H
  have u : Kn 18 [(d, 0)] [(tB 8 true), (tP 1 0 0)] m := (i.setB 8 true (by rfl) e).kp
  refine Rk 6 5 [(tB 13 (decide (b.hi ≤ 2000))), (tP 1 0 0)] u a fun o j => ?_
  rcases Bool.eq_false_or_eq_true (decide (b.hi ≤ 2000)) with f | f
  ·
   rw [f, cond_true] at H
   have x : Kn 18 [(d, 0)] [(tB 13 true), (tP 1 0 0)] o := (j.setB 13 true (by rfl) f).kp
   refine Rk 11 2 [(tI 15 b.turn), (tB 13 true)] x a fun ao k => ?_
   obtain ⟨x16, ex16, H⟩ := bnd H
   refine wpFrom_loud _ rfl (wantedS_sound k (by kernel_rfl)) fun K hK => ?_
   refine wc [.c (.int .i64 b.turn), .c (.int .i64 0), .c (.int .i64 2000)] k a (lane_within_ok n a.has b.turn 0 2000 ex16) fun ax al a0 q an l => ?_
   obtain rfl := q
   refine ⟨.one (.c (.bool x16)), rfl, fun aj (y : Kn 18 [(d, 0)] [(tB 16 x16), (tI 15 b.turn), (tB 13 true)] aj) => hK _ _ ?_⟩
   refine Rk 14 2 [(tB 2 x16)] y l fun ap z => ?_
   refine wf (wp_ret ?_)
   obtain rfl := Option.some.inj H
   exact rt (.one (.c (.bool x16))) z l rfl
  ·
   rw [f, cond_false] at H
   have aa : Kn 18 [(d, 0)] [(tB 13 false), (tP 1 0 0)] o := (j.setB 13 false (by rfl) f).kp
   refine Rk 11 5 [(tB 2 false)] aa a fun aq ac => ?_
   refine wf (wp_ret ?_)
   obtain rfl := Option.some.inj H
   exact rt (.one (.c (.bool false))) ac a rfl
 ·
  rw [cond_f e] at H
  have ad : Kn 18 [(d, 0)] [(tB 8 false), (tP 1 0 0)] m := (i.setB 8 false (by rfl) e).kp
  refine Rk 6 10 [(tB 2 false)] ad a fun ar ae => ?_
  refine wf (wp_ret ?_)
  obtain rfl := Option.some.inj H
  exact rt (.one (.c (.bool false))) ae a rfl
abbrev K96c1 (x : Bus) : List SC := [.int .i64 x.lo, .int .i64 x.hi, .int .i64 x.turn]
set_option maxRecDepth 100000 in
set_option maxHeartbeats 4000000 in
theorem lane_all_lane_Bus_1_ok (n : Nat) {h : Heap} {w : World} (hh : Has h w) (x : Bus) {cs_x : List Value} (hx_x : rep h x cs_x) (q0 : Bus → Option Bool) {b_q0 : Nat} (hb_q0 : BoxS h b_q0 q0) {r : Bool} (H : lane_all_lane_Bus_1 n x q0 = some r) :
  Calls Try.prog 96 #[.agg cs_x.toArray, .pointer (some ⟨b_q0, 0, none⟩)] w (Ret (fun h v => v = .bool r) h w) := by
 obtain ⟨_, _, rfl, rfl, ⟨_, _, rfl, rfl, rfl⟩⟩ := hx_x
 obtain ⟨_, hx_q0, hc_q0⟩ := id hb_q0
 obtain ⟨d, a, b, rfl, l⟩ := hx_q0
 refine enter' (e := [(b_q0, 0)]) 8 [.agg (K96c1 x), .c (.ptr 0 0)] Try.func96 rfl rfl rfl rfl fun t hk => ?_
 have hm := Mem.begin h w hh
 replace hm := hm.addPlc (o := 0) (cs := [.func d a b]) (fun j c hj => by rw [Nat.zero_add]; exact hc_q0 j _ (map_get hj)) rfl (by kernel_rfl) (by kernel_rfl)
 replace hm : Mem ⟨w, h, noX⟩ h [(b_q0, 0)] [⟨[.func d a b], none⟩] [] w := hm
 unfold lane_all_lane_Bus_1 at H
 refine wp_seq (wp_region_from (wl fun K hK => ?_))
 refine wb (.agg (K96c1 x)) hk hm fun g z ah (u : Kn 8 [(b_q0, 0), (g, 0)] [(tP 2 1 0), (tA 0 (K96c1 x)), (tP 1 0 0)] z) f => hK _ _ ?_
 refine Rk 1 1 [(tP 2 1 0), (tP 1 0 0)] u f fun ac m => ?_
 refine wf (wp_seq (wp_region_from (Rk 0 2 [(tA 5 (K96c1 x)), (4, .one (.c (.func d a b)))] m f fun ad p => ?_)))
 obtain ⟨x6, ex6, H⟩ := bnd H
 refine wl fun K hK => ?_
 refine wp_callV (.func d a b) [.agg (K96c1 x)] _ p f rfl rfl (by decide) (by rfl) (by rfl) rfl (l _ _ (Heap.le_refl _) f.has x _ ((rep_pair rep_int (rep_pair rep_int rep_int)) : rep h x _) _ ex6) fun af aa ag k ab i => ?_
 obtain rfl := k
 refine ⟨.one (.c (.bool x6)), rfl, fun y (q : Kn 8 [(b_q0, 0), (g, 0)] [(tB 6 x6), (tA 5 (K96c1 x)), (4, .one (.c (.func d a b)))] y) => hK _ _ ?_⟩
 refine Rk 3 2 [(tB 3 (!x6))] q i fun ae s => ?_
 refine wf (wp_ret ?_)
 obtain rfl := Option.some.inj H
 exact rt (.one (.c (.bool (!x6)))) s i rfl
abbrev K115c1 (x14 : Bus) : List SC := [.int .i64 x14.lo, .int .i64 x14.hi, .int .i64 x14.turn]
abbrev K115m2 (s : List Bus) (a_s : Option Addr) (c_s : Nat) (fn_f : Fn) (fa_f fc_f : Array Value) : TM := [(tI 7 ((s.length : Nat) : Int)), (tS 0 a_s s.length c_s), (1, .one (.c (.func fn_f fa_f fc_f)))]
set_option maxRecDepth 100000 in
set_option maxHeartbeats 4000000 in
theorem slices_IndexFunc_lane_Bus_lane_Bus_ok (n : Nat) {h : Heap} {w : World} (hh : Has h w) (s : List Bus) {a_s : Option Addr} {c_s : Nat} (hr_s : RepS h a_s c_s s) (f : Bus → Option Bool) {fn_f : Fn} {fa_f fc_f : Array Value} (hf_f : Fn2 h (.func fn_f fa_f fc_f) f) {r : Int} (H : slices_IndexFunc_lane_Bus_lane_Bus n s f = some r) :
  Calls Try.prog 115 #[.slice a_s s.length c_s, .func fn_f fa_f fc_f] w (Ret (fun h v => v = .int .i64 r) h w) := by
 refine enter 19 [.c (.slice a_s s.length c_s), .c (.func fn_f fa_f fc_f)] Try.func115 rfl rfl rfl rfl fun t hk => ?_
 have hm := Mem.begin h w hh
 unfold slices_IndexFunc_lane_Bus_lane_Bus at H
 refine wp_seq (wp_region_from (Rk 0 1 [(tS 0 a_s s.length c_s), (1, .one (.c (.func fn_f fa_f fc_f)))] hk hm fun a8 al => ?_))
 refine wf (wp_seq (wp_seq (wp_region_from (Rk 0 3 ((tI 8 0) :: (K115m2 s a_s c_s fn_f fa_f fc_f)) al hm fun bc ap => ?_))))
 refine wf ?_
 obtain ⟨ae, ac, H⟩ := bnd H
 refine wp_mid' (fun a' w' => ∃ (af : Unit) (ab : Array Value) (m : Heap), a' = ⟨ab, []⟩ ∧ Kn 19 [] [] ab ∧ Mem ⟨w, h, noX⟩ m [] [] [] w' ∧ Heap.le h m ∧ ae = .go af) ?_ ?_
 ·
  refine wp_block ?_
  refine wp_loop_n (fun a3 a' w' => ∃ (x_v10 : Int) (aa : Array Value) (g : Heap), a' = ⟨aa, []⟩ ∧ Kn 19 [] ((tI 8 x_v10) :: (K115m2 s a_s c_s fn_f fa_f fc_f)) aa ∧ Mem ⟨w, h, noX⟩ g [] [] [] w' ∧ Heap.le h g ∧ slices_IndexFunc_lane_Bus_lane_Bus_l1 a3 s f x_v10 = some ae) n ?_ ?_
  ·
   exact Exists.intro 0 ⟨_, _, rfl, ap.kp, hm, (Heap.le_refl _), ac⟩
  ·
   rintro z _ bi ⟨x_v10, aa, g, rfl, ak, d, i, a⟩
   clear ac
   obtain _ | z := z
   ·
    rw [slices_IndexFunc_lane_Bus_lane_Bus_l1] at a; cases a
   rw [slices_IndexFunc_lane_Bus_lane_Bus_l1] at a
   replace hr_s := hr_s.mono i
   replace hf_f := hf_f.mono i
   refine wp_seq (wp_region_from (Rk 0 1 ((tB 9 (decide (x_v10 < ((s.length : Nat) : Int)))) :: (tI 8 x_v10) :: (K115m2 s a_s c_s fn_f fa_f fc_f)) ak d fun a9 u => ?_))
   refine wf (wp_seq (wC (decide (x_v10 < ((s.length : Nat) : Int))) u (fun p => ?_) (fun p => ?_)))
   ·
    rw [p, cond_true] at a
    refine wp_skip (wp_seq (wp_block (wp_seq (wp_region_from (Rk 0 2 ((tI 5 x_v10) :: (tI 8 x_v10) :: (K115m2 s a_s c_s fn_f fa_f fc_f)) u d fun ba am => ?_)))))
    refine wf (wp_seq (wp_region_from (Rk 0 3 ((tI 13 x_v10) :: (tS 12 a_s s.length c_s) :: (11, .one (.c (.func fn_f fa_f fc_f))) :: (tI 5 x_v10) :: (tI 8 x_v10) :: (K115m2 s a_s c_s fn_f fa_f fc_f)) am d fun bb an => ?_)))
    obtain ⟨x14, ex14, a⟩ := bnd a
    obtain ⟨az, a0, a2⟩ := idx_some ex14
    obtain ⟨e, l, a5, ai, a1, aj⟩ := hr_s.get (by decide) a2
    obtain ⟨_, _, rfl, rfl, ⟨_, _, rfl, rfl, rfl⟩⟩ := a1
    have y := d.addPlc (b := e) (o := l + (x_v10 : Int).toNat * 3) (cs := (K115c1 x14)) (fun j c hj => aj j _ (map_get hj)) rfl (by kernel_rfl) (by kernel_rfl)
    refine R_index 3 (x_v10) rfl rfl (rfl) rfl (by decide) an (by rfl) (by rfl) (by rfl) ai (by rfl) az a0 (by kernel_rfl) fun a4 (ao : Kn 19 [(e, l + (x_v10 : Int).toNat * 3)] ((tP 14 0 0) :: (tI 13 x_v10) :: (tS 12 a_s s.length c_s) :: (11, .one (.c (.func fn_f fa_f fc_f))) :: (tI 5 x_v10) :: (tI 8 x_v10) :: (K115m2 s a_s c_s fn_f fa_f fc_f)) a4) => ?_
    refine Rk 4 1 ((tA 15 (K115c1 x14)) :: (11, .one (.c (.func fn_f fa_f fc_f))) :: (tI 5 x_v10) :: (tI 8 x_v10) :: (K115m2 s a_s c_s fn_f fa_f fc_f)) ao y fun bd aq => ?_
    obtain ⟨x16, ex16, a⟩ := bnd a
    refine wl fun K hK => ?_
    refine wp_callV (.func fn_f fa_f fc_f) [.agg (K115c1 x14)] _ aq y rfl rfl (by decide) (by rfl) (by rfl) rfl (hf_f _ _ (Heap.le_refl _) y.has x14 _ ((rep_pair rep_int (rep_pair rep_int rep_int)) : rep g x14 _) _ ex16) fun bh a6 bj ah ay k => ?_
    obtain rfl := ah
    refine ⟨.one (.c (.bool x16)), rfl, fun ag (ar : Kn 19 [(e, l + (x_v10 : Int).toNat * 3)] ((tB 16 x16) :: (tA 15 (K115c1 x14)) :: (11, .one (.c (.func fn_f fa_f fc_f))) :: (tI 5 x_v10) :: (tI 8 x_v10) :: (K115m2 s a_s c_s fn_f fa_f fc_f)) ag) => hK _ _ ?_⟩
    have x : Kn 19 [(e, l + (x_v10 : Int).toNat * 3)] ((tB 16 x16) :: (tI 5 x_v10) :: (tI 8 x_v10) :: (K115m2 s a_s c_s fn_f fa_f fc_f)) ag := ar.kp
    refine wf (wC (x16) x (fun q => ?_) (fun q => ?_))
    ·
     rw [cond_t q] at a
     refine wp_seq (wp_region_from (Rk 0 2 [(tI 4 x_v10)] x k fun be au => ?_))
     refine wf (wp_ret ?_)
     obtain rfl := Option.some.inj a
     obtain rfl := Option.some.inj H
     exact rt (.one (.c (.int .i64 x_v10))) au k rfl
    ·
     rw [cond_f q] at a
     refine wp_skip (wp_region_from (Rk 0 2 ((tI 8 (IntKind.i64.wrap (x_v10 + 1))) :: (K115m2 s a_s c_s fn_f fa_f fc_f)) x k fun bf av => ?_))
     refine wf ?_
     exact Exists.intro z ⟨Nat.lt_succ_self _, Exists.intro (IntKind.i64.wrap (x_v10 + 1)) ⟨_, _, rfl, ((av.keep [8, 7, 0, 1] (by rfl)).cut 0 (by kernel_rfl)), (k.cutPl 0 (by kernel_rfl)), (Heap.le_trans i ay), a⟩⟩
   ·
    rw [p, cond_false] at a
    refine wp_exit ?_
    obtain rfl := Option.some.inj a
    exact Exists.intro () ⟨_, _, rfl, u.kp, d, i, rfl⟩
 ·
  rintro _ bk ⟨af, ab, m, rfl, aw, ad, a7, rfl⟩
  rw [Ex.bind_go] at H
  refine wp_seq (wp_region_from (Rk 0 1 [(tI 4 (-1))] aw ad fun bg ax => ?_))
  refine wf (wp_ret ?_)
  obtain rfl := Option.some.inj H
  exact rt (.one (.c (.int .i64 (-1)))) ax ad rfl
set_option maxRecDepth 100000 in
set_option maxHeartbeats 4000000 in
theorem slices_ContainsFunc_lane_Bus_lane_Bus_ok (n : Nat) {h : Heap} {w : World} (hh : Has h w) (s : List Bus) {a_s : Option Addr} {c_s : Nat} (hr_s : RepS h a_s c_s s) (f : Bus → Option Bool) {fn_f : Fn} {fa_f fc_f : Array Value} (hf_f : Fn2 h (.func fn_f fa_f fc_f) f) {r : Bool} (H : slices_ContainsFunc_lane_Bus_lane_Bus n s f = some r) :
  Calls Try.prog 95 #[.slice a_s s.length c_s, .func fn_f fa_f fc_f] w (Ret (fun h v => v = .bool r) h w) := by
 refine enter 9 [.c (.slice a_s s.length c_s), .c (.func fn_f fa_f fc_f)] Try.func95 rfl rfl rfl rfl fun t hk => ?_
 have hm := Mem.begin h w hh
 unfold slices_ContainsFunc_lane_Bus_lane_Bus at H
 refine wp_seq (wp_region_from (Rk 0 1 [(tS 0 a_s s.length c_s), (1, .one (.c (.func fn_f fa_f fc_f)))] hk hm fun m g => ?_))
 refine wf (wp_seq (wp_region_from (Rk 0 2 [(6, .one (.c (.func fn_f fa_f fc_f))), (tS 5 a_s s.length c_s)] g hm fun p i => ?_)))
 obtain ⟨x7, ex7, H⟩ := bnd H
 refine wl fun K hK => ?_
 refine wc [.c (.slice a_s s.length c_s), .c (.func fn_f fa_f fc_f)] i hm (slices_IndexFunc_lane_Bus_lane_Bus_ok n hm.has s hr_s f hf_f ex7) fun q k u b l a => ?_
 obtain rfl := b
 refine ⟨.one (.c (.int .i64 x7)), rfl, fun j (d : Kn 9 [] [(tI 7 x7), (6, .one (.c (.func fn_f fa_f fc_f))), (tS 5 a_s s.length c_s)] j) => hK _ _ ?_⟩
 refine Rk 3 2 [(tB 4 (decide (x7 ≥ 0)))] d a fun o e => ?_
 refine wf (wp_ret ?_)
 obtain rfl := Option.some.inj H
 exact rt (.one (.c (.bool (decide (x7 ≥ 0))))) e a rfl
set_option maxRecDepth 100000 in
set_option maxHeartbeats 4000000 in
theorem lane_all_lane_Bus_ok (n : Nat) {h : Heap} {w : World} (hh : Has h w) (l : List Bus) {a_l : Option Addr} {c_l : Nat} (hr_l : RepS h a_l c_l l) (right : Bus → Option Bool) {fn_right : Fn} {fa_right fc_right : Array Value} (hf_right : Fn2 h (.func fn_right fa_right fc_right) right) {r : Bool} (H : lane_all_lane_Bus n l right = some r) :
  Calls Try.prog 72 #[.slice a_l l.length c_l, .func fn_right fa_right fc_right] w (Ret (fun h v => v = .bool r) h w) := by
 refine enter 9 [.c (.slice a_l l.length c_l), .c (.func fn_right fa_right fc_right)] Try.func72 rfl rfl rfl rfl fun t hk => ?_
 have hm := Mem.begin h w hh
 unfold lane_all_lane_Bus at H
 refine wp_seq (wp_region_from (wl fun K hK => ?_))
 refine wb (.c (.func fn_right fa_right fc_right)) hk hm fun a aa ac (u : Kn 9 [(a, 0)] [(tP 3 0 0), (tS 0 a_l l.length c_l), (1, .one (.c (.func fn_right fa_right fc_right)))] aa) f => hK _ _ ?_
 refine Rk 1 1 [(tP 3 0 0), (tS 0 a_l l.length c_l)] u f fun ah x => ?_
 refine wf (wp_seq (wp_region_from (Rk 0 1 [(tS 5 a_l l.length c_l), (tP 3 0 0)] x f fun ai y => ?_)))
 obtain ⟨b, j, g, d⟩ := f.settlePlc (i := 0) rfl
 replace hr_l := hr_l.mono j
 replace hf_right := hf_right.mono j
 replace d : Mem ⟨w, h, noX⟩ b [(a, 0)] [⟨[.func fn_right fa_right fc_right], none⟩] [] ac := d
 have o : BoxS b a (right : Bus → Option Bool) := BoxS.of (e := [(a, 0)]) (cs := [.func fn_right fa_right fc_right]) (⟨_, _, _, rfl, hf_right⟩ : rep b (right : Bus → Option Bool) _) rfl g
 have ae : CellsAt b a [.func fn_right fa_right fc_right] := CellsAt.of (e := [(a, 0)]) (cs := [.func fn_right fa_right fc_right]) rfl g
 refine R_func 1 #[] #[.pointer (some ⟨a, 0, none⟩)] y rfl rfl (rfl) rfl (by decide) (by rfl) (by rfl) (by rfl) (by rfl) fun z (p : Kn 9 [(a, 0)] [(6, .one (.c (.func (.func 96) #[] #[.pointer (some ⟨a, 0, none⟩)]))), (tS 5 a_l l.length c_l), (tP 3 0 0)] z) => ?_
 obtain ⟨x7, ex7, H⟩ := bnd H
 refine wl fun K hK => ?_
 refine wc [.c (.slice a_l l.length c_l), .c (.func (.func 96) #[] #[.pointer (some ⟨a, 0, none⟩)])] p d (slices_ContainsFunc_lane_Bus_lane_Bus_ok n d.has l hr_l (fun (y0 : Bus) => lane_all_lane_Bus_1 n y0 right) (show Fn2 b (.func (.func 96) #[] #[.pointer (some ⟨a, 0, none⟩)]) (fun (y0 : Bus) => lane_all_lane_Bus_1 n y0 right) from fun h2 w2 hle hh y0 cs0 hy0 r H => ⟨96, _, _, rfl, fun _ _ => by kernel_rfl, lane_all_lane_Bus_1_ok n hh y0 hy0 right (o.mono hle) H⟩) ex7) fun aj ad ak m af k => ?_
 obtain rfl := m
 refine ⟨.one (.c (.bool x7)), rfl, fun ab (q : Kn 9 [(a, 0)] [(tB 7 x7), (6, .one (.c (.func (.func 96) #[] #[.pointer (some ⟨a, 0, none⟩)]))), (tS 5 a_l l.length c_l), (tP 3 0 0)] ab) => hK _ _ ?_⟩
 refine Rk 3 2 [(tB 4 (!x7))] q k fun ag s => ?_
 refine wf (wp_ret ?_)
 obtain rfl := Option.some.inj H
 exact rt (.one (.c (.bool (!x7)))) s k rfl
set_option maxRecDepth 100000 in
set_option maxHeartbeats 4000000 in
theorem lane_Yard_check_1_ok (n : Nat) {h : Heap} {w : World} (hh : Has h w) (n_ : Int) {r : Bool} (H : lane_Yard_check_1 n n_ = some r) :
  Calls Try.prog 69 #[.int .i64 n_] w (Ret (fun h v => v = .bool r) h w) := by
 refine enter 5 [.c (.int .i64 n_)] Try.func69 rfl rfl rfl rfl fun t hk => ?_
 have hm := Mem.begin h w hh
 unfold lane_Yard_check_1 at H
 refine wp_seq (wp_region_from (Rk 0 1 [(tI 0 n_)] hk hm fun l f => ?_))
 refine wf (wp_seq (wp_region_from (Rk 0 1 [(tI 3 n_)] f hm fun o g => ?_)))
 obtain ⟨x4, ex4, H⟩ := bnd H
 refine wl fun K hK => ?_
 refine wc [.c (.int .i64 n_), .c (.int .i64 0), .c (.int .i64 8)] g hm (lane_within_ok n hm.has n_ 0 8 ex4) fun p j q b k a => ?_
 obtain rfl := b
 refine ⟨.one (.c (.bool x4)), rfl, fun i (d : Kn 5 [] [(tB 4 x4), (tI 3 n_)] i) => hK _ _ ?_⟩
 refine Rk 2 1 [(tB 2 x4)] d a fun m e => ?_
 refine wf (wp_ret ?_)
 obtain rfl := Option.some.inj H
 exact rt (.one (.c (.bool x4))) e a rfl
abbrev K46c1 (x48 : Bus) : List SC := [.int .i64 x48.lo, .int .i64 x48.hi, .int .i64 x48.turn]
abbrev K46e2 (a q s : Nat) (x_v10 : Int) (u : Nat) : Env := [(a, 0), (q, s + (x_v10 : Int).toNat * 3), (u, 0)]
abbrev K46c3 (i : Option Addr) (y : Yard) (l : Nat) (d : Option Addr) (e : Nat) : List SC := [.slice i y.room.length l, .slice d y.buses.length e, .int .i64 y.broken]
abbrev K46m4 (y : Yard) (d : Option Addr) (e f : Nat) : TM := [(tI 45 ((y.buses.length : Nat) : Int)), (tS 44 d y.buses.length e), (4, .one (.c (.map (some f))))]
abbrev K46m5 : TM := [(3, .one (.c (.func (.func 69) #[] #[]))), (tP 1 0 0)]
set_option maxRecDepth 100000 in
set_option maxHeartbeats 4000000 in
theorem lane_Yard_check_ok (n : Nat) {h : Heap} {w : World} (hh : Has h w) (y : Yard) {cs_y : List Value} (hx_y : rep h y cs_y) {r : Int} (H : lane_Yard_check n y = some r) :
  Calls Try.prog 46 #[.agg cs_y.toArray] w (Ret (fun h v => v = .int .i64 r) h w) := by
 obtain ⟨_, _, rfl, ⟨i, l, rfl, z⟩, ⟨_, _, rfl, ⟨d, e, rfl, p⟩, rfl⟩⟩ := hx_y
 refine enter 58 [.agg (K46c3 i y l d e)] Try.func46 rfl rfl rfl rfl fun t hk => ?_
 have hm := Mem.begin h w hh
 unfold lane_Yard_check at H
 refine wp_seq (wp_region_from (wl fun K hK => ?_))
 refine wb (.agg (K46c3 i y l d e)) hk hm fun a dx e4 (cg : Kn 58 [(a, 0)] [(tP 1 0 0), (tA 0 (K46c3 i y l d e))] dx) ac => hK _ _ ?_
 refine Rk 1 1 [(tP 1 0 0)] cg ac fun d8 cl => ?_
 refine wf (wp_seq (wp_region_from (Rk 0 1 K46m5 cl ac fun ea cp => ?_)))
 refine wf (wp_seq (wp_block (wp_seq ?_)))
 obtain ⟨bz, an, H⟩ := bnd H
 refine wp_mid' (fun a' w' => ∃ (be : Array Value) (aq : Heap), a' = ⟨be, []⟩ ∧ Kn 58 [(a, 0)] [(3, .one (.c (.func (.func 69) #[] #[]))), (tP 1 0 0), (tB 7 bz)] be ∧ Mem ⟨w, h, noX⟩ aq [(a, 0)] [⟨(K46c3 i y l d e), some 33⟩] [] w' ∧ Heap.le h aq) ?_ ?_
 ·
  refine wp_region_from (Rk 0 5 ((tB 12 (decide (((y.room.length : Nat) : Int) > 3))) :: K46m5) cp ac fun b3 bj => ?_)
  rcases Bool.eq_false_or_eq_true (decide (((y.room.length : Nat) : Int) > 3)) with ah | ah
  ·
   rw [ah, cond_true] at an
   have c2 : Kn 58 [(a, 0)] ((tB 12 true) :: K46m5) b3 := (bj.setB 12 true (by rfl) ah).kp
   refine Rk 5 6 ((tB 7 true) :: K46m5) c2 ac fun eg c3 => ?_
   refine wf ?_
   obtain rfl := Option.some.inj an
   exact Exists.intro _ ⟨_, rfl, c3.kp, ac, (Heap.le_refl _)⟩
  ·
   rw [ah, cond_false] at an
   have c4 : Kn 58 [(a, 0)] ((tB 12 false) :: K46m5) b3 := (bj.setB 12 false (by rfl) ah).kp
   refine Rk 5 6 ((tB 7 (decide (((y.buses.length : Nat) : Int) > 8))) :: K46m5) c4 ac fun eh c5 => ?_
   refine wf ?_
   obtain rfl := Option.some.inj an
   exact Exists.intro _ ⟨_, rfl, c5.kp, ac, (Heap.le_refl _)⟩
 ·
  rintro _ e0 ⟨be, aq, rfl, a3, aa, bq⟩
  replace z := z.mono bq
  replace p := p.mono bq
  refine wC (bz) a3 (fun az => ?_) (fun az => ?_)
  ·
   rw [cond_t az] at H
   refine wp_seq (wp_region_from (Rk 0 1 [(tI 2 3)] a3 aa fun ei c6 => ?_))
   refine wf (wp_ret ?_)
   obtain rfl := Option.some.inj H
   exact rt (.one (.c (.int .i64 3))) c6 aa rfl
  ·
   rw [cond_f az] at H
   refine wp_seq ?_
   obtain ⟨ba, g, H⟩ := bnd H
   refine wp_mid' (fun a' w' => ∃ (bf : Array Value) (ab : Heap), a' = ⟨bf, []⟩ ∧ Kn 58 [(a, 0)] [(tP 1 0 0), (tB 18 ba)] bf ∧ Mem ⟨w, h, noX⟩ ab [(a, 0)] [⟨(K46c3 i y l d e), some 33⟩] [] w' ∧ Heap.le aq ab) ?_ ?_
   ·
    refine wp_region_from (Rk 0 5 ((tB 23 (((y.room.length : Nat) : Int) == 0)) :: K46m5) a3 aa fun b4 bk => ?_)
    rcases Bool.eq_false_or_eq_true ((((y.room.length : Nat) : Int) == 0)) with ai | ai
    ·
     rw [ai, cond_true] at g
     have c7 : Kn 58 [(a, 0)] ((tB 23 true) :: K46m5) b4 := (bk.setB 23 true (by rfl) ai).kp
     refine Rk 5 19 [(tB 18 true), (tP 1 0 0)] c7 aa fun ej c8 => ?_
     refine wf ?_
     obtain rfl := Option.some.inj g
     exact Exists.intro _ ⟨_, rfl, c8.kp, aa, (Heap.le_refl _)⟩
    ·
     rw [ai, cond_false] at g
     have c9 : Kn 58 [(a, 0)] ((tB 23 false) :: K46m5) b4 := (bk.setB 23 false (by rfl) ai).kp
     refine Rk 5 2 ((tI 25 y.broken) :: (tB 23 false) :: K46m5) c9 aa fun ek bl => ?_
     obtain ⟨x26, ex26, g⟩ := bnd g
     refine wpFrom_loud _ rfl (wantedS_sound bl (by kernel_rfl)) fun K hK => ?_
     refine wc [.c (.int .i64 y.broken), .c (.int .i64 0), .c (.int .i64 2)] bl aa (lane_within_ok n aa.has y.broken 0 2 ex26) fun et cc e1 b9 al ae => ?_
     replace z := z.mono al
     replace p := p.mono al
     obtain rfl := b9
     refine ⟨.one (.c (.bool x26)), rfl, fun dv (da : Kn 58 [(a, 0)] ((tB 26 x26) :: (tI 25 y.broken) :: (tB 23 false) :: K46m5) dv) => hK _ _ ?_⟩
     refine Rk 8 3 ((tB 29 (!x26)) :: K46m5) da ae fun b5 bm => ?_
     rcases Bool.eq_false_or_eq_true ((!x26)) with aj | aj
     ·
      rw [aj, cond_true] at g
      have db : Kn 58 [(a, 0)] ((tB 29 true) :: K46m5) b5 := (bm.setB 29 true (by rfl) aj).kp
      refine Rk 11 13 [(tB 18 true), (tP 1 0 0)] db ae fun el dc => ?_
      refine wf ?_
      obtain rfl := Option.some.inj g
      exact Exists.intro _ ⟨_, rfl, dc.kp, ae, al⟩
     ·
      rw [aj, cond_false] at g
      have dd : Kn 58 [(a, 0)] ((tB 29 false) :: K46m5) b5 := (bm.setB 29 false (by rfl) aj).kp
      refine Rk 11 3 [(32, .one (.c (.func (.func 69) #[] #[]))), (tS 31 i y.room.length l), (tB 29 false), (tP 1 0 0)] dd ae fun em bn => ?_
      obtain ⟨x33, ex33, g⟩ := bnd g
      refine wpFrom_loud _ rfl (wantedS_sound bn (by kernel_rfl)) fun K hK => ?_
      refine wc [.c (.slice i y.room.length l), .c (.func (.func 69) #[] #[])] bn ae (lane_all_int_ok n ae.has y.room z (fun (y0 : Int) => lane_Yard_check_1 n y0) (show Fn1 cc (.func (.func 69) #[] #[]) (fun (y0 : Int) => lane_Yard_check_1 n y0) from fun h2 w2 hle hh y0 r H => ⟨69, _, _, rfl, fun _ _ => by kernel_rfl, lane_Yard_check_1_ok n hh y0 H⟩) ex33) fun eu cd e2 ca ar af => ?_
      replace z := z.mono ar
      replace p := p.mono ar
      obtain rfl := ca
      refine ⟨.one (.c (.bool x33)), rfl, fun dw (de : Kn 58 [(a, 0)] [(tB 33 x33), (32, .one (.c (.func (.func 69) #[] #[]))), (tS 31 i y.room.length l), (tB 29 false), (tP 1 0 0)] dw) => hK _ _ ?_⟩
      refine Rk 15 3 [(tB 36 (!x33)), (tP 1 0 0)] de af fun b6 bo => ?_
      rcases Bool.eq_false_or_eq_true ((!x33)) with ak | ak
      ·
       rw [ak, cond_true] at g
       have df : Kn 58 [(a, 0)] [(tB 36 true), (tP 1 0 0)] b6 := (bo.setB 36 true (by rfl) ak).kp
       refine Rk 18 6 [(tB 18 true), (tP 1 0 0)] df af fun en dg => ?_
       refine wf ?_
       obtain rfl := Option.some.inj g
       exact Exists.intro _ ⟨_, rfl, dg.kp, af, (Heap.le_trans al ar)⟩
      ·
       rw [ak, cond_false] at g
       have dh : Kn 58 [(a, 0)] [(tB 36 false), (tP 1 0 0)] b6 := (bo.setB 36 false (by rfl) ak).kp
       refine Rk 18 2 [(tS 38 d y.buses.length e), (tB 36 false), (tP 1 0 0)] dh af fun eo bp => ?_
       obtain ⟨x39, ex39, g⟩ := bnd g
       refine wpFrom_loud _ rfl (wantedS_sound bp (by kernel_rfl)) fun K hK => ?_
       refine wc [.c (.slice d y.buses.length e), .c (.func (.func 73) #[] #[])] bp af (lane_all_lane_Bus_ok n af.has y.buses p (fun (y0 : Bus) => lane_Bus_valid n y0) (show Fn2 cd (.func (.func 73) #[] #[]) (fun (y0 : Bus) => lane_Bus_valid n y0) from fun h2 w2 hle hh y0 cs0 hy0 r H => ⟨73, _, _, rfl, fun _ _ => by kernel_rfl, lane_Bus_valid_ok n hh y0 hy0 H⟩) ex39) fun ev d4 e3 cb dl bv => ?_
       obtain rfl := cb
       refine ⟨.one (.c (.bool x39)), rfl, fun dy (di : Kn 58 [(a, 0)] [(tB 39 x39), (tS 38 d y.buses.length e), (tB 36 false), (tP 1 0 0)] dy) => hK _ _ ?_⟩
       refine Rk 21 3 [(tB 18 (!x39)), (tP 1 0 0)] di bv fun ep dj => ?_
       refine wf ?_
       obtain rfl := Option.some.inj g
       exact Exists.intro _ ⟨_, rfl, dj.kp, bv, (Heap.le_trans al (Heap.le_trans ar dl))⟩
   ·
    rintro _ d0 ⟨bf, ab, rfl, a4, a8, br⟩
    replace z := z.mono br
    replace p := p.mono br
    refine wC (ba) a4 (fun a0 => ?_) (fun a0 => ?_)
    ·
     rw [cond_t a0] at H
     refine wp_seq (wp_region_from (Rk 0 1 [(tI 2 1)] a4 a8 fun er dk => ?_))
     refine wf (wp_ret ?_)
     obtain rfl := Option.some.inj H
     exact rt (.one (.c (.int .i64 1))) dk a8 rfl
    ·
     rw [cond_f a0] at H
     refine wp_skip (wp_seq (wp_region_from (wl fun K hK => ?_)))
     refine wp_makeMap a4 a8 rfl rfl (by decide) fun f dt d3 (ch : Kn 58 [(a, 0)] [(42, .one (.c (.map (some f)))), (tP 1 0 0), (tB 18 ba)] dt) (a6 : Mem (Fr.put ⟨w, h, noX⟩ f (some (.map #[] 0))) ab [(a, 0)] [⟨(K46c3 i y l d e), some 33⟩] [] (World.alloc d0 (.map #[] 0))) => ?_
     have b8 : Ents ab (#[] : Array MapEntry).toList 0 ([] : List (Int × Bool)) := Ents.nil
     refine hK _ _ ?_
     refine Rk 1 1 [(4, .one (.c (.map (some f)))), (tP 1 0 0)] ch a6 fun d6 ci => ?_
     refine wf (wp_seq (wp_seq (wp_region_from (Rk 0 4 ((tI 46 0) :: (K46m4 y d e f)) ci a6 fun d7 cj => ?_))))
     refine wf ?_
     obtain ⟨bx, bh, H⟩ := bnd H
     refine wp_mid' (fun a' w' => ∃ (bb : List (Int × Bool)) (av : Array MapEntry) (au : Nat) (bc : Array Value) (ap : Heap), a' = ⟨bc, []⟩ ∧ Kn 58 [(a, 0)] [] bc ∧ Mem (Fr.put ⟨w, h, noX⟩ f (some (.map av au))) ap [(a, 0)] [⟨(K46c3 i y l d e), some 33⟩] [] w' ∧ Heap.le ab ap ∧ Ents ap av.toList au bb ∧ bx = .go bb) ?_ ?_
     ·
      refine wp_block ?_
      refine wp_loop_n (fun ds a' w' => ∃ (x_v10 : Int) (x_v11 : List (Int × Bool)) (ao : Array MapEntry) (am : Nat) (bd : Array Value) (ag : Heap), a' = ⟨bd, []⟩ ∧ Kn 58 [(a, 0)] ((tI 46 x_v10) :: (K46m4 y d e f)) bd ∧ Mem (Fr.put ⟨w, h, noX⟩ f (some (.map ao am))) ag [(a, 0)] [⟨(K46c3 i y l d e), some 33⟩] [] w' ∧ Heap.le ab ag ∧ Ents ag ao.toList am x_v11 ∧ lane_Yard_check_l1 ds y x_v10 x_v11 = some bx) n ?_ ?_
      ·
       exact Exists.intro 0 ⟨([] : List (Int × Bool)), #[], 0, _, _, rfl, cj.kp, a6, (Heap.le_refl _), b8, bh⟩
      ·
       rintro a9 _ ew ⟨x_v10, x_v11, ao, am, bd, ag, rfl, ck, a7, a5, aw, m⟩
       clear bh
       obtain _ | a9 := a9
       ·
        rw [lane_Yard_check_l1] at m; cases m
       rw [lane_Yard_check_l1] at m
       replace p := p.mono a5
       refine wp_seq (wp_region_from (Rk 0 1 ((tB 47 (decide (x_v10 < ((y.buses.length : Nat) : Int)))) :: (tI 46 x_v10) :: (K46m4 y d e f)) ck a7 fun d9 a1 => ?_))
       refine wf (wp_seq (wC (decide (x_v10 < ((y.buses.length : Nat) : Int))) a1 (fun ax => ?_) (fun ax => ?_)))
       ·
        rw [ax, cond_true] at m
        refine wp_skip (wp_seq (wp_block (wp_seq (wp_region_from ?_))))
        obtain ⟨x48, ex48, m⟩ := bnd m
        obtain ⟨dn, dp, dr⟩ := idx_some ex48
        obtain ⟨q, s, d1, ce, dq, cf⟩ := p.get (by decide) dr
        obtain ⟨_, _, rfl, rfl, ⟨_, _, rfl, rfl, rfl⟩⟩ := dq
        have bs := a7.addPlc (b := q) (o := s + (x_v10 : Int).toNat * 3) (cs := (K46c1 x48)) (fun j c hj => cf j _ (map_get hj)) rfl (by kernel_rfl) (by kernel_rfl)
        refine R_index 0 (x_v10) rfl rfl (rfl) rfl (by decide) a1 (by rfl) (by rfl) (by rfl) ce (by rfl) dn dp (by kernel_rfl) fun du (cm : Kn 58 [(a, 0), (q, s + (x_v10 : Int).toNat * 3)] ((tP 48 1 0) :: (tB 47 (decide (x_v10 < ((y.buses.length : Nat) : Int)))) :: (tI 46 x_v10) :: (K46m4 y d e f)) du) => ?_
        refine Rk 1 1 ((tA 49 (K46c1 x48)) :: (tI 46 x_v10) :: (K46m4 y d e f)) cm bs fun eb cn => ?_
        refine wl fun K hK => ?_
        refine wa [.int .i64 0, .int .i64 0, .int .i64 0] cn bs fun u b0 ex (co : Kn 58 (K46e2 a q s x_v10 u) ((tP 6 2 0) :: (tA 49 (K46c1 x48)) :: (tI 46 x_v10) :: (K46m4 y d e f)) b0) dm => hK _ _ ?_
        refine wl fun K hK => ?_
        refine wst 2 0 (.agg (K46c1 x48)) (K46c1 x48) co dm fun ey cq ad => hK _ _ ?_
        have cr : Kn 58 (K46e2 a q s x_v10 u) ((tP 6 2 0) :: (tI 46 x_v10) :: (K46m4 y d e f)) b0 := cq.kp
        refine wf (wp_seq (wp_seq (wp_region_from (Rk 0 3 ((tI 52 x48.turn) :: (50, .one (.c (.map (some f)))) :: (tP 6 2 0) :: (tI 46 x_v10) :: (K46m4 y d e f)) cr ad fun ec ct => ?_))))
        obtain ⟨x53, ex53, m⟩ := bnd m
        refine wl fun K hK => ?_
        refine wp_lookup (KT := 3) (E := 4) (k := (x48.turn : Int)) (false : Bool) (.c (.int .i64 x48.turn)) ct rfl rfl (by decide) (by rfl) (by rfl) (by kernel_rfl) (KL.int (by kernel_rfl)) (ad.ext (Fr.put_X _ _ _)) aw rfl (by kernel_rfl) rfl fun es bw => ?_
        rw [Option.some.inj ex53] at bw ⊢
        obtain rfl := bw
        refine ⟨.one (.c (.bool x53.1)), rfl, fun b1 (cu : Kn 58 (K46e2 a q s x_v10 u) ((tB 53 x53.1) :: (tI 52 x48.turn) :: (50, .one (.c (.map (some f)))) :: (tP 6 2 0) :: (tI 46 x_v10) :: (K46m4 y d e f)) b1) => hK _ _ ?_⟩
        have a2 : Kn 58 (K46e2 a q s x_v10 u) ((tB 53 x53.1) :: (tP 6 2 0) :: (tI 46 x_v10) :: (K46m4 y d e f)) b1 := cu.kp
        refine wf (wC (x53.1) a2 (fun ay => ?_) (fun ay => ?_))
        ·
         rw [cond_t ay] at m
         refine wp_seq (wp_region_from (Rk 0 1 [(tI 2 1)] a2 ad fun ed cv => ?_))
         refine wf (wp_ret ?_)
         obtain rfl := Option.some.inj m
         obtain rfl := Option.some.inj H
         exact rt (.one (.c (.int .i64 1))) cv ad rfl
        ·
         rw [cond_f ay] at m
         refine wp_skip (wp_region_from (Rk 0 3 ((tI 56 x48.turn) :: (54, .one (.c (.map (some f)))) :: (tI 46 x_v10) :: (K46m4 y d e f)) a2 ad fun b2 cw => ?_))
         refine wl fun K hK => ?_
         refine wp_updateP (KT := 3) (E := 4) (k := (x48.turn : Int)) (x := (true : Bool)) (.c (.int .i64 x48.turn)) (.c (.bool true)) cw ad rfl rfl (by rfl) (by rfl) (by rfl) (by kernel_rfl) (KL.int (by kernel_rfl)) aw rfl rfl fun bi bg dz b7 (cx : Kn 58 (K46e2 a q s x_v10 u) ((tI 56 x48.turn) :: (54, .one (.c (.map (some f)))) :: (tI 46 x_v10) :: (K46m4 y d e f)) b2) (bt : Mem (Fr.put ⟨w, h, noX⟩ f (some (.map bi bg))) ag (K46e2 a q s x_v10 u) [⟨(K46c3 i y l d e), some 33⟩, ⟨(K46c1 x48), none⟩, ⟨(K46c1 x48), some 70⟩] [] dz) => hK _ _ ?_
         have cy : Kn 58 (K46e2 a q s x_v10 u) ((tI 46 x_v10) :: (K46m4 y d e f)) b2 := cx.kp
         refine wf (wp_region_from (Rk 0 2 ((tI 46 (IntKind.i64.wrap (x_v10 + 1))) :: (K46m4 y d e f)) cy bt fun ee cz => ?_))
         refine wf ?_
         exact Exists.intro a9 ⟨Nat.lt_succ_self _, Exists.intro (IntKind.i64.wrap (x_v10 + 1)) ⟨(put? x_v11 x48.turn true), bi, bg, _, _, rfl, ((cz.keep [46, 45, 44, 4] (by rfl)).cut 1 (by kernel_rfl)), (bt.cutPl 1 (by kernel_rfl)), a5, b7, m⟩⟩
       ·
        rw [ax, cond_false] at m
        refine wp_exit ?_
        obtain rfl := Option.some.inj m
        exact Exists.intro x_v11 ⟨ao, am, _, _, rfl, a1.kp, a7, a5, aw, rfl⟩
     ·
      rintro _ ez ⟨bb, av, au, bc, ap, rfl, c0, bu, d5, d2, rfl⟩
      rw [Ex.bind_go] at H
      refine wp_seq (wp_region_from (Rk 0 1 [(tI 2 0)] c0 bu fun ef c1 => ?_))
      refine wf (wp_ret ?_)
      obtain rfl := Option.some.inj H
      exact rt (.one (.c (.int .i64 0))) c1 bu rfl
set_option maxRecDepth 100000 in
set_option maxHeartbeats 4000000 in
theorem slices_Clone_int_int_own (n : Nat) {h : Heap} {w : World} (hh : Has h w) (s : List Int) {a_s : Option Addr} {c_s : Nat} (hr_s : RepS h a_s c_s s) {r : List Int} (H : slices_Clone_int_int n s = some r) :
  Calls Try.prog 48 #[.slice a_s s.length c_s] w (RetO (fun h v rs => ∃ (j : Option Addr) (k : Nat) (p : List Value), v = .slice j r.length k ∧ rs = [⟨j, r.length, k, 3, 1, p, 0⟩] ∧ Cells h r p) h w) := by
 refine enter 8 [.c (.slice a_s s.length c_s)] Try.func48 rfl rfl rfl rfl fun t hk => ?_
 have hm := Mem.begin h w hh
 unfold slices_Clone_int_int at H
 refine wp_seq (wp_region_from (Rk 0 1 [(tS 0 a_s s.length c_s)] hk hm fun ak ab => ?_))
 refine wf (wp_seq (wp_seq (wp_region_from (Rk 0 2 [(tB 4 a_s.isNone), (tS 0 a_s s.length c_s)] ab hm fun am f => ?_))))
 refine wf (wC (a_s.isNone) f (fun l => ?_) (fun l => ?_))
 ·
  obtain rfl := RepS.isNil hr_s (by decide) l
  replace H : some ([] : List Int) = some r := by simpa [app] using H
  refine wp_seq (wp_region_from (Rk 0 1 [(tS 2 none 0 0)] f hm fun ao ae => ?_))
  refine wf (wp_ret ?_)
  have ag : Mem ⟨w, h, noX⟩ h [] [] [⟨none, 0, 0, 3, 1, ([] : List Value), 0⟩] w := hm.nilRow 3 1
  obtain rfl := Option.some.inj H
  exact retO_ok (.one (.c (.slice none 0 0))) [0] ae ag (by kernel_rfl) (by kernel_rfl) (by kernel_rfl) ⟨_, _, _, rfl, rfl, Cells.nil⟩
 ·
  refine wp_skip (wp_seq (wp_region_from (wl fun K hK => ?_)))
  refine wS 3 1 [] f hm fun d ai ap (z : Kn 8 [] [(tS 5 d 0 0), (tB 4 a_s.isNone), (tS 0 a_s s.length c_s)] ai) g => ?_
  have u : Cells h ([] : List Int) ([] : List Value) := Cells.nil
  refine hK _ _ ?_
  refine Rk 1 1 [(tS 6 a_s s.length c_s), (tS 5 d 0 0)] z g fun al aa => ?_
  obtain ⟨o, a, ah, _⟩ := id hr_s
  obtain ⟨x7, ex7, H⟩ := bnd H
  obtain ⟨i, af⟩ := app_some ex7
  refine wl fun K hK => ?_
  refine wp_append 0 8 s.length _ (x7.length) _ o aa g rfl rfl (by decide) rfl (by rfl) (by kernel_rfl) (by rfl) (by rfl) (Cells.len a) (ah.cell g.has a.one) a.one (by rw [i]; simp <;> omega) (by rw [i]; exact af) (by decide) fun b e q aj aq y (ac : Kn 8 [] [(tS 7 b x7.length e), (tS 6 a_s s.length c_s), (tS 5 d 0 0)] aj) m => ?_
  have x : Cells h x7 (([] : List Value) ++ o) := by rw [i]; exact Cells.append u a
  obtain rfl : q = 0 := Nat.le_zero.1 y
  refine hK _ _ ?_
  refine Rk 3 1 [(tS 2 b x7.length e)] ac m fun an ad => ?_
  refine wf (wp_ret ?_)
  obtain rfl := Option.some.inj H
  exact retO_ok (.one (.c (.slice b x7.length e))) [0] ad m (by kernel_rfl) (by kernel_rfl) (by kernel_rfl) ⟨_, _, _, rfl, rfl, x⟩
end Go.Proofs.Ythcbemnflgjadaa
