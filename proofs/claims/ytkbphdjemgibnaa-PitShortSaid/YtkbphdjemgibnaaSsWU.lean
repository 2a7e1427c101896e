/- Each call computes its plain function. -/
import Derived.Test.YtkbphdjemgibnaaProg
import Derived.Test.YtkbphdjemgibnaaSsP0
import Derived.Test.YtkbphdjemgibnaaSsWP
import Derived.Test.YtkbphdjemgibnaaSsWT
set_option linter.all false
namespace Go.Proofs.Ytkbphdjemgibnaa
open Go Go.RowKit
open Rep (rep)
open KRep (kv)
open VRep (rv)
set_option maxRecDepth 100000 in
set_option maxHeartbeats 4000000 in
theorem pit_Shop_check_1_ok (n : Nat) {h : Heap} {w : World} (hh : Has h w) (n_ : Int) {r : Bool} (H : pit_Shop_check_1 n n_ = some r) :
  Calls Try.prog 92 #[.int .i64 n_] w (Ret (fun h v => v = .bool r) h w) := by
 refine enter 5 [.c (.int .i64 n_)] Try.func92 rfl rfl rfl rfl fun t hk => ?_
 have hm := Mem.begin h w hh
 unfold pit_Shop_check_1 at H
 refine wp_seq (wp_region_from (Rk 0 1 [(tI 0 n_)] hk hm fun l f => ?_))
 refine wf (wp_seq (wp_region_from (Rk 0 1 [(tI 3 n_)] f hm fun o g => ?_)))
 obtain ⟨x4, ex4, H⟩ := bnd H
 refine wl fun K hK => ?_
 refine wc [.c (.int .i64 n_), .c (.int .i64 0), .c (.int .i64 160)] g hm (pit_within_ok n hm.has n_ 0 160 ex4) fun p j q b k a => ?_
 obtain rfl := b
 refine ⟨.one (.c (.bool x4)), rfl, fun i (d : Kn 5 [] [(tB 4 x4), (tI 3 n_)] i) => hK _ _ ?_⟩
 refine Rk 2 1 [(tB 2 x4)] d a fun m e => ?_
 refine wf (wp_ret ?_)
 obtain rfl := Option.some.inj H
 exact rt (.one (.c (.bool x4))) e a rfl
abbrev K124c1 (x14 : Job) : List SC := [.int .i64 x14.due, .int .i64 x14.work, .int .i64 x14.cost]
abbrev K124m2 (s : List Job) (a_s : Option Addr) (c_s : Nat) (fn_f : Fn) (fa_f fc_f : Array Value) : TM := [(tI 7 ((s.length : Nat) : Int)), (tS 0 a_s s.length c_s), (1, .one (.c (.func fn_f fa_f fc_f)))]
set_option maxRecDepth 100000 in
set_option maxHeartbeats 4000000 in
theorem slices_IndexFunc_pit_Job_pit_Job_ok (n : Nat) {h : Heap} {w : World} (hh : Has h w) (s : List Job) {a_s : Option Addr} {c_s : Nat} (hr_s : RepS h a_s c_s s) (f : Job → Option Bool) {fn_f : Fn} {fa_f fc_f : Array Value} (hf_f : Fn4 h (.func fn_f fa_f fc_f) f) {r : Int} (H : slices_IndexFunc_pit_Job_pit_Job n s f = some r) :
  Calls Try.prog 124 #[.slice a_s s.length c_s, .func fn_f fa_f fc_f] w (Ret (fun h v => v = .int .i64 r) h w) := by
 refine enter 19 [.c (.slice a_s s.length c_s), .c (.func fn_f fa_f fc_f)] Try.func124 rfl rfl rfl rfl fun t hk => ?_
 have hm := Mem.begin h w hh
 unfold slices_IndexFunc_pit_Job_pit_Job at H
 refine wp_seq (wp_region_from (Rk 0 1 [(tS 0 a_s s.length c_s), (1, .one (.c (.func fn_f fa_f fc_f)))] hk hm fun a7 aj => ?_))
 refine wf (wp_seq (wp_seq (wp_region_from (Rk 0 3 ((tI 8 0) :: (K124m2 s a_s c_s fn_f fa_f fc_f)) aj hm fun bb an => ?_))))
 refine wf ?_
 obtain ⟨ac, aa, H⟩ := bnd H
 refine wp_mid' (fun a' w' => ∃ (ad : Unit) (z : Array Value) (l : Heap), a' = ⟨z, []⟩ ∧ Kn 19 [] [] z ∧ Mem ⟨w, h, noX⟩ l [] [] [] w' ∧ Heap.le h l ∧ ac = .go ad) ?_ ?_
 ·
  refine wp_block ?_
  refine wp_loop_n (fun a1 a' w' => ∃ (x_v10 : Int) (y : Array Value) (b : Heap), a' = ⟨y, []⟩ ∧ Kn 19 [] ((tI 8 x_v10) :: (K124m2 s a_s c_s fn_f fa_f fc_f)) y ∧ Mem ⟨w, h, noX⟩ b [] [] [] w' ∧ Heap.le h b ∧ slices_IndexFunc_pit_Job_pit_Job_l1 a1 s f x_v10 = some ac) n ?_ ?_
  ·
   exact Exists.intro 0 ⟨_, _, rfl, an.kp, hm, (Heap.le_refl _), aa⟩
  ·
   rintro x _ a3 ⟨x_v10, y, b, rfl, ai, d, g, a⟩
   clear aa
   obtain _ | x := x
   ·
    rw [slices_IndexFunc_pit_Job_pit_Job_l1] at a; cases a
   rw [slices_IndexFunc_pit_Job_pit_Job_l1] at a
   replace hr_s := hr_s.mono g
   replace hf_f := hf_f.mono g
   refine wp_seq (wp_region_from (Rk 0 1 ((tB 9 (decide (x_v10 < ((s.length : Nat) : Int)))) :: (tI 8 x_v10) :: (K124m2 s a_s c_s fn_f fa_f fc_f)) ai d fun a8 p => ?_))
   refine wf (wp_seq (wC (decide (x_v10 < ((s.length : Nat) : Int))) p (fun m => ?_) (fun m => ?_)))
   ·
    rw [m, cond_true] at a
    refine wp_skip (wp_seq (wp_block (wp_seq (wp_region_from (Rk 0 2 ((tI 5 x_v10) :: (tI 8 x_v10) :: (K124m2 s a_s c_s fn_f fa_f fc_f)) p d fun a9 ak => ?_)))))
    refine wf (wp_seq (wp_region_from (Rk 0 3 ((tI 13 x_v10) :: (tS 12 a_s s.length c_s) :: (11, .one (.c (.func fn_f fa_f fc_f))) :: (tI 5 x_v10) :: (tI 8 x_v10) :: (K124m2 s a_s c_s fn_f fa_f fc_f)) ak d fun ba al => ?_)))
    obtain ⟨x14, ex14, a⟩ := bnd a
    obtain ⟨ax, ay, a0⟩ := idx_some ex14
    obtain ⟨e, k, a4, ag, az, ah⟩ := hr_s.get (by decide) a0
    obtain ⟨_, _, rfl, rfl, ⟨_, _, rfl, rfl, rfl⟩⟩ := az
    have u : Mem ⟨w, h, noX⟩ b [(e, k + (x_v10 : Int).toNat * 3)] [⟨(K124c1 x14), none⟩] [] a3 := d.addPlc (cs := (K124c1 x14)) (fun j c hj => ah j _ (map_get hj)) rfl (by kernel_rfl) (by kernel_rfl)
    refine R_index 3 (x_v10) rfl rfl (rfl) rfl (by decide) al (by rfl) (by rfl) (by rfl) ag (by rfl) ax ay (by kernel_rfl) fun a2 (am : Kn 19 [(e, k + (x_v10 : Int).toNat * 3)] ((tP 14 0 0) :: (tI 13 x_v10) :: (tS 12 a_s s.length c_s) :: (11, .one (.c (.func fn_f fa_f fc_f))) :: (tI 5 x_v10) :: (tI 8 x_v10) :: (K124m2 s a_s c_s fn_f fa_f fc_f)) a2) => ?_
    refine Rk 4 1 ((tA 15 (K124c1 x14)) :: (11, .one (.c (.func fn_f fa_f fc_f))) :: (tI 5 x_v10) :: (tI 8 x_v10) :: (K124m2 s a_s c_s fn_f fa_f fc_f)) am u fun bc ao => ?_
    obtain ⟨x16, ex16, a⟩ := bnd a
    refine wl fun K hK => ?_
    refine wp_callV (.func fn_f fa_f fc_f) [.agg (K124c1 x14)] _ ao u rfl rfl (by decide) (by rfl) (by rfl) rfl (hf_f _ _ (Heap.le_refl _) u.has x14 _ ((rep_pair rep_int (rep_pair rep_int rep_int)) : rep b x14 _) _ ex16) fun bg a5 bh af aw i => ?_
    obtain rfl := af
    refine ⟨.one (.c (.bool x16)), rfl, fun ae (ap : Kn 19 [(e, k + (x_v10 : Int).toNat * 3)] ((tB 16 x16) :: (tA 15 (K124c1 x14)) :: (11, .one (.c (.func fn_f fa_f fc_f))) :: (tI 5 x_v10) :: (tI 8 x_v10) :: (K124m2 s a_s c_s fn_f fa_f fc_f)) ae) => hK _ _ ?_⟩
    have q : Kn 19 [(e, k + (x_v10 : Int).toNat * 3)] ((tB 16 x16) :: (tI 5 x_v10) :: (tI 8 x_v10) :: (K124m2 s a_s c_s fn_f fa_f fc_f)) ae := ap.kp
    refine wf (wC (x16) q (fun o => ?_) (fun o => ?_))
    ·
     rw [o, cond_true] at a
     refine wp_seq (wp_region_from (Rk 0 2 [(tI 4 x_v10)] q i fun bd aq => ?_))
     refine wf (wp_ret ?_)
     obtain rfl := Option.some.inj a
     obtain rfl := Option.some.inj H
     exact rt (.one (.c (.int .i64 x_v10))) aq i rfl
    ·
     rw [o, cond_false] at a
     refine wp_skip (wp_region_from (Rk 0 2 ((tI 8 (IntKind.i64.wrap (x_v10 + 1))) :: (K124m2 s a_s c_s fn_f fa_f fc_f)) q i fun be ar => ?_))
     refine wf ?_
     exact Exists.intro x ⟨Nat.lt_succ_self _, Exists.intro (IntKind.i64.wrap (x_v10 + 1)) ⟨_, _, rfl, ((ar.keep [8, 7, 0, 1] (by rfl)).cut 0 (by kernel_rfl)), (i.cutPl 0 (by kernel_rfl)), (Heap.le_trans g aw), a⟩⟩
   ·
    rw [m, cond_false] at a
    refine wp_exit ?_
    obtain rfl := Option.some.inj a
    exact Exists.intro () ⟨_, _, rfl, p.kp, d, g, rfl⟩
 ·
  rintro _ bi ⟨ad, z, l, rfl, au, ab, a6, rfl⟩
  rw [Ex.bind_go] at H
  refine wp_seq (wp_region_from (Rk 0 1 [(tI 4 (-1))] au ab fun bf av => ?_))
  refine wf (wp_ret ?_)
  obtain rfl := Option.some.inj H
  exact rt (.one (.c (.int .i64 (-1)))) av ab rfl
set_option maxRecDepth 100000 in
set_option maxHeartbeats 4000000 in
theorem slices_ContainsFunc_pit_Job_pit_Job_ok (n : Nat) {h : Heap} {w : World} (hh : Has h w) (s : List Job) {a_s : Option Addr} {c_s : Nat} (hr_s : RepS h a_s c_s s) (f : Job → Option Bool) {fn_f : Fn} {fa_f fc_f : Array Value} (hf_f : Fn4 h (.func fn_f fa_f fc_f) f) {r : Bool} (H : slices_ContainsFunc_pit_Job_pit_Job n s f = some r) :
  Calls Try.prog 112 #[.slice a_s s.length c_s, .func fn_f fa_f fc_f] w (Ret (fun h v => v = .bool r) h w) := by
 refine enter 9 [.c (.slice a_s s.length c_s), .c (.func fn_f fa_f fc_f)] Try.func112 rfl rfl rfl rfl fun t hk => ?_
 have hm := Mem.begin h w hh
 unfold slices_ContainsFunc_pit_Job_pit_Job at H
 refine wp_seq (wp_region_from (Rk 0 1 [(tS 0 a_s s.length c_s), (1, .one (.c (.func fn_f fa_f fc_f)))] hk hm fun m g => ?_))
 refine wf (wp_seq (wp_region_from (Rk 0 2 [(6, .one (.c (.func fn_f fa_f fc_f))), (tS 5 a_s s.length c_s)] g hm fun p i => ?_)))
 obtain ⟨x7, ex7, H⟩ := bnd H
 refine wl fun K hK => ?_
 refine wc [.c (.slice a_s s.length c_s), .c (.func fn_f fa_f fc_f)] i hm (slices_IndexFunc_pit_Job_pit_Job_ok n hm.has s hr_s f hf_f ex7) fun q k u b l a => ?_
 obtain rfl := b
 refine ⟨.one (.c (.int .i64 x7)), rfl, fun j (d : Kn 9 [] [(tI 7 x7), (6, .one (.c (.func fn_f fa_f fc_f))), (tS 5 a_s s.length c_s)] j) => hK _ _ ?_⟩
 refine Rk 3 2 [(tB 4 (decide (x7 ≥ 0)))] d a fun o e => ?_
 refine wf (wp_ret ?_)
 obtain rfl := Option.some.inj H
 exact rt (.one (.c (.bool (decide (x7 ≥ 0))))) e a rfl
abbrev K113c1 (x : Job) : List SC := [.int .i64 x.due, .int .i64 x.work, .int .i64 x.cost]
set_option maxRecDepth 100000 in
set_option maxHeartbeats 4000000 in
theorem pit_all_pit_Job_1_ok (n : Nat) {h : Heap} {w : World} (hh : Has h w) (x : Job) {cs_x : List Value} (hx_x : rep h x cs_x) (q0 : Job → Option Bool) {b_q0 : Nat} (hb_q0 : BoxS h b_q0 q0) {r : Bool} (H : pit_all_pit_Job_1 n x q0 = some r) :
  Calls Try.prog 113 #[.agg cs_x.toArray, .pointer (some ⟨b_q0, 0, none⟩)] w (Ret (fun h v => v = .bool r) h w) := by
 obtain ⟨_, _, rfl, rfl, ⟨_, _, rfl, rfl, rfl⟩⟩ := hx_x
 obtain ⟨_, hx_q0, hc_q0⟩ := id hb_q0
 obtain ⟨d, a, b, rfl, l⟩ := hx_q0
 refine enter' (e := [(b_q0, 0)]) 8 [.agg (K113c1 x), .c (.ptr 0 0)] Try.func113 rfl rfl rfl rfl fun t hk => ?_
 have hm := Mem.begin h w hh
 replace hm := hm.addPlc (o := 0) (cs := [.func d a b]) (fun j c hj => by rw [Nat.zero_add]; exact hc_q0 j _ (map_get hj)) rfl (by kernel_rfl) (by kernel_rfl)
 replace hm : Mem ⟨w, h, noX⟩ h [(b_q0, 0)] [⟨[.func d a b], none⟩] [] w := hm
 unfold pit_all_pit_Job_1 at H
 refine wp_seq (wp_region_from (wl fun K hK => ?_))
 refine wb (.agg (K113c1 x)) hk hm fun g z aa (u : Kn 8 [(b_q0, 0), (g, 0)] [(tP 2 1 0), (tA 0 (K113c1 x)), (tP 1 0 0)] z) (f : Mem ⟨w, h, noX⟩ h [(b_q0, 0), (g, 0)] [⟨[.func d a b], none⟩, ⟨(K113c1 x), some 120⟩] [] aa) => hK _ _ ?_
 refine Rk 1 1 [(tP 2 1 0), (tP 1 0 0)] u f fun ad m => ?_
 refine wf (wp_seq (wp_region_from (Rk 0 2 [(tA 5 (K113c1 x)), (4, .one (.c (.func d a b)))] m f fun ae p => ?_)))
 obtain ⟨x6, ex6, H⟩ := bnd H
 refine wl fun K hK => ?_
 refine wp_callV (.func d a b) [.agg (K113c1 x)] _ p f rfl rfl (by decide) (by rfl) (by rfl) rfl (l _ _ (Heap.le_refl _) f.has x _ ((rep_pair rep_int (rep_pair rep_int rep_int)) : rep h x _) _ ex6) fun ag ab ah k ac i => ?_
 obtain rfl := k
 refine ⟨.one (.c (.bool x6)), rfl, fun y (q : Kn 8 [(b_q0, 0), (g, 0)] [(tB 6 x6), (tA 5 (K113c1 x)), (4, .one (.c (.func d a b)))] y) => hK _ _ ?_⟩
 refine Rk 3 2 [(tB 3 (!x6))] q i fun af s => ?_
 refine wf (wp_ret ?_)
 obtain rfl := Option.some.inj H
 exact rt (.one (.c (.bool (!x6)))) s i rfl
set_option maxRecDepth 100000 in
set_option maxHeartbeats 4000000 in
theorem pit_all_pit_Job_ok (n : Nat) {h : Heap} {w : World} (hh : Has h w) (l : List Job) {a_l : Option Addr} {c_l : Nat} (hr_l : RepS h a_l c_l l) (right : Job → Option Bool) {fn_right : Fn} {fa_right fc_right : Array Value} (hf_right : Fn4 h (.func fn_right fa_right fc_right) right) {r : Bool} (H : pit_all_pit_Job n l right = some r) :
  Calls Try.prog 93 #[.slice a_l l.length c_l, .func fn_right fa_right fc_right] w (Ret (fun h v => v = .bool r) h w) := by
 refine enter 9 [.c (.slice a_l l.length c_l), .c (.func fn_right fa_right fc_right)] Try.func93 rfl rfl rfl rfl fun t hk => ?_
 have hm := Mem.begin h w hh
 unfold pit_all_pit_Job at H
 refine wp_seq (wp_region_from (wl fun K hK => ?_))
 refine wb (.c (.func fn_right fa_right fc_right)) hk hm fun a ab m (x : Kn 9 [(a, 0)] [(tP 3 0 0), (tS 0 a_l l.length c_l), (1, .one (.c (.func fn_right fa_right fc_right)))] ab) (f : Mem ⟨w, h, noX⟩ h [(a, 0)] [⟨[.func fn_right fa_right fc_right], some 145⟩] [] m) => hK _ _ ?_
 refine Rk 1 1 [(tP 3 0 0), (tS 0 a_l l.length c_l)] x f fun ah y => ?_
 refine wf (wp_seq (wp_region_from (Rk 0 1 [(tS 5 a_l l.length c_l), (tP 3 0 0)] y f fun ai z => ?_)))
 obtain ⟨b, j, g, d⟩ := f.settlePlc (i := 0) rfl
 replace hr_l := hr_l.mono j
 replace hf_right := hf_right.mono j
 replace d : Mem ⟨w, h, noX⟩ b [(a, 0)] [⟨[.func fn_right fa_right fc_right], none⟩] [] m := d
 have p : BoxS b a (right : Job → Option Bool) := BoxS.of (e := [(a, 0)]) (cs := [.func fn_right fa_right fc_right]) (⟨_, _, _, rfl, hf_right⟩ : rep b (right : Job → Option Bool) _) rfl g
 have ae : CellsAt b a [.func fn_right fa_right fc_right] := CellsAt.of (e := [(a, 0)]) (cs := [.func fn_right fa_right fc_right]) rfl g
 refine R_func 1 #[] #[.pointer (some ⟨a, 0, none⟩)] z rfl rfl (rfl) rfl (by decide) (by rfl) (by rfl) (by rfl) (by rfl) fun aa (q : Kn 9 [(a, 0)] [(6, .one (.c (.func (.func 113) #[] #[.pointer (some ⟨a, 0, none⟩)]))), (tS 5 a_l l.length c_l), (tP 3 0 0)] aa) => ?_
 obtain ⟨x7, ex7, H⟩ := bnd H
 refine wl fun K hK => ?_
 refine wc [.c (.slice a_l l.length c_l), .c (.func (.func 113) #[] #[.pointer (some ⟨a, 0, none⟩)])] q d (slices_ContainsFunc_pit_Job_pit_Job_ok n d.has l hr_l (fun (y0 : Job) => pit_all_pit_Job_1 n y0 right) (show Fn4 b (.func (.func 113) #[] #[.pointer (some ⟨a, 0, none⟩)]) (fun (y0 : Job) => pit_all_pit_Job_1 n y0 right) from fun h2 w2 hle hh y0 cs0 hy0 r H => ⟨113, _, _, rfl, fun _ _ => by kernel_rfl, pit_all_pit_Job_1_ok n hh y0 hy0 right (p.mono hle) H⟩) ex7) fun aj ad ak o af k => ?_
 obtain rfl := o
 refine ⟨.one (.c (.bool x7)), rfl, fun ac (s : Kn 9 [(a, 0)] [(tB 7 x7), (6, .one (.c (.func (.func 113) #[] #[.pointer (some ⟨a, 0, none⟩)]))), (tS 5 a_l l.length c_l), (tP 3 0 0)] ac) => hK _ _ ?_⟩
 refine Rk 3 2 [(tB 4 (!x7))] s k fun ag u => ?_
 refine wf (wp_ret ?_)
 obtain rfl := Option.some.inj H
 exact rt (.one (.c (.bool (!x7)))) u k rfl
abbrev K94c1 (j : Job) : List SC := [.int .i64 j.due, .int .i64 j.work, .int .i64 j.cost]
set_option maxRecDepth 100000 in
set_option maxHeartbeats 4000000 in
theorem pit_Job_valid_ok (n : Nat) {h : Heap} {w : World} (hh : Has h w) (j : Job) {cs_j : List Value} (hx_j : rep h j cs_j) {r : Bool} (H : pit_Job_valid n j = some r) :
  Calls Try.prog 94 #[.agg cs_j.toArray] w (Ret (fun h v => v = .bool r) h w) := by
 obtain ⟨_, _, rfl, rfl, ⟨_, _, rfl, rfl, rfl⟩⟩ := hx_j
 refine enter 16 [.agg (K94c1 j)] Try.func94 rfl rfl rfl rfl fun t hk => ?_
 have hm := Mem.begin h w hh
 unfold pit_Job_valid at H
 refine wp_seq (wp_region_from (wl fun K hK => ?_))
 refine wb (.agg (K94c1 j)) hk hm fun a am ap (ac : Kn 16 [(a, 0)] [(tP 1 0 0), (tA 0 (K94c1 j))] am) (g : Mem ⟨w, h, noX⟩ h [(a, 0)] [⟨(K94c1 j), some 120⟩] [] ap) => hK _ _ ?_
 refine Rk 1 1 [(tP 1 0 0)] ac g fun a3 aj => ?_
 refine wf (wp_seq (wp_region_from (Rk 0 2 [(tI 4 j.due), (tP 1 0 0)] aj g fun a4 ak => ?_)))
 obtain ⟨x5, ex5, H⟩ := bnd H
 refine wl fun K hK => ?_
 refine wc [.c (.int .i64 j.due), .c (.int .i64 0), .c (.int .i64 14)] ak g (pit_within_ok n g.has j.due 0 14 ex5) fun a5 aq a8 s av b => ?_
 obtain rfl := s
 refine ⟨.one (.c (.bool x5)), rfl, fun al (y : Kn 16 [(a, 0)] [(tB 5 x5), (tI 4 j.due), (tP 1 0 0)] al) => hK _ _ ?_⟩
 refine Rk 3 1 [(tB 6 x5), (tP 1 0 0)] y b fun p i => ?_
 rcases Bool.eq_false_or_eq_true (x5) with e | e
 ·
  rw [e, cond_true] at H
  have z : Kn 16 [(a, 0)] [(tB 6 true), (tP 1 0 0)] p := (i.setB 6 true (by rfl) e).kp
  refine Rk 4 2 [(tI 8 j.work), (tB 6 true), (tP 1 0 0)] z b fun ay k => ?_
  obtain ⟨x9, ex9, H⟩ := bnd H
  refine wpFrom_loud _ rfl (wantedS_sound k (by kernel_rfl)) fun K hK => ?_
  refine wc [.c (.int .i64 j.work), .c (.int .i64 1), .c (.int .i64 20)] k b (pit_within_ok n b.has j.work 1 20 ex9) fun a6 ar a9 u aw d => ?_
  obtain rfl := u
  refine ⟨.one (.c (.bool x9)), rfl, fun an (aa : Kn 16 [(a, 0)] [(tB 9 x9), (tI 8 j.work), (tB 6 true), (tP 1 0 0)] an) => hK _ _ ?_⟩
  refine Rk 7 2 [(tB 11 x9), (tP 1 0 0)] aa d fun q l => ?_
  rcases Bool.eq_false_or_eq_true (x9) with f | f
  ·
   rw [f, cond_true] at H
   have ab : Kn 16 [(a, 0)] [(tB 11 true), (tP 1 0 0)] q := (l.setB 11 true (by rfl) f).kp
   refine Rk 9 2 [(tI 13 j.cost), (tB 11 true)] ab d fun az m => ?_
   obtain ⟨x14, ex14, H⟩ := bnd H
   refine wpFrom_loud _ rfl (wantedS_sound m (by kernel_rfl)) fun K hK => ?_
   refine wc [.c (.int .i64 j.cost), .c (.int .i64 0), .c (.int .i64 1000)] m d (pit_within_ok n d.has j.cost 0 1000 ex14) fun a7 au ba x ax o => ?_
   obtain rfl := x
   refine ⟨.one (.c (.bool x14)), rfl, fun ao (ad : Kn 16 [(a, 0)] [(tB 14 x14), (tI 13 j.cost), (tB 11 true)] ao) => hK _ _ ?_⟩
   refine Rk 12 2 [(tB 2 x14)] ad o fun a0 ae => ?_
   refine wf (wp_ret ?_)
   obtain rfl := Option.some.inj H
   exact rt (.one (.c (.bool x14))) ae o rfl
  ·
   rw [f, cond_false] at H
   have af : Kn 16 [(a, 0)] [(tB 11 false), (tP 1 0 0)] q := (l.setB 11 false (by rfl) f).kp
   refine Rk 9 5 [(tB 2 false)] af d fun a1 ag => ?_
   refine wf (wp_ret ?_)
   obtain rfl := Option.some.inj H
   exact rt (.one (.c (.bool false))) ag d rfl
 ·
  rw [e, cond_false] at H
  have ah : Kn 16 [(a, 0)] [(tB 6 false), (tP 1 0 0)] p := (i.setB 6 false (by rfl) e).kp
  refine Rk 4 10 [(tB 2 false)] ah b fun a2 ai => ?_
  refine wf (wp_ret ?_)
  obtain rfl := Option.some.inj H
  exact rt (.one (.c (.bool false))) ai b rfl
abbrev K73m1 : TM := [(3, .one (.c (.func (.func 92) #[] #[]))), (tP 1 0 0)]
set_option maxRecDepth 100000 in
set_option maxHeartbeats 4000000 in
theorem pit_Shop_check_ok (n : Nat) {h : Heap} {w : World} (hh : Has h w) (s : Shop) {cs_s : List Value} (hx_s : rep h s cs_s) {r : Int} (H : pit_Shop_check n s = some r) :
  Calls Try.prog 73 #[.agg cs_s.toArray] w (Ret (fun h v => v = .int .i64 r) h w) := by
 obtain ⟨_, _, rfl, ⟨e, g, rfl, p⟩, ⟨_, _, rfl, rfl, ⟨f, i, rfl, q⟩⟩⟩ := hx_s
 refine enter 35 [.agg [.slice e s.buses.length g, .int .i64 s.days, .slice f s.pits.length i]] Try.func73 rfl rfl rfl rfl fun t hk => ?_
 have hm := Mem.begin h w hh
 unfold pit_Shop_check at H
 refine wp_seq (wp_region_from (wl fun K hK => ?_))
 refine wb (.agg [.slice e s.buses.length g, .int .i64 s.days, .slice f s.pits.length i]) hk hm fun a bg bh (au : Kn 35 [(a, 0)] [(tP 1 0 0), (tA 0 [.slice e s.buses.length g, .int .i64 s.days, .slice f s.pits.length i])] bg) (d : Mem ⟨w, h, noX⟩ h [(a, 0)] [⟨[.slice e s.buses.length g, .int .i64 s.days, .slice f s.pits.length i], some 79⟩] [] bh) => hK _ _ ?_
 refine Rk 1 1 [(tP 1 0 0)] au d fun bk av => ?_
 refine wf (wp_seq (wp_region_from (Rk 0 1 K73m1 av d fun bl aw => ?_)))
 refine wf (wp_seq (wp_block (wp_seq (wp_region_from (Rk 0 5 ((tB 4 (decide (((s.buses.length : Nat) : Int) > 8))) :: K73m1) aw d fun bm y => ?_)))))
 refine wf (wC (decide (((s.buses.length : Nat) : Int) > 8)) y (fun u => ?_) (fun u => ?_))
 ·
  rw [u, cond_true] at H
  refine wp_seq (wp_region_from (Rk 0 1 [(tI 2 3)] y d fun bn ax => ?_))
  refine wf (wp_ret ?_)
  obtain rfl := Option.some.inj H
  exact rt (.one (.c (.int .i64 3))) ax d rfl
 ·
  rw [u, cond_false] at H
  refine wp_seq (wp_region_from (Rk 0 2 ((tI 11 s.days) :: K73m1) y d fun bo ay => ?_))
  obtain ⟨x12, ex12, H⟩ := bnd H
  refine wl fun K hK => ?_
  refine wc [.c (.int .i64 s.days), .c (.int .i64 1), .c (.int .i64 14)] ay d (pit_within_ok n d.has s.days 1 14 ex12) fun b1 aq b4 an ai b => ?_
  replace p := p.mono ai
  replace q := q.mono ai
  obtain rfl := an
  refine ⟨.one (.c (.bool x12)), rfl, fun bd (az : Kn 35 [(a, 0)] ((tB 12 x12) :: (tI 11 s.days) :: K73m1) bd) => hK _ _ ?_⟩
  refine Rk 3 2 ((tB 14 (!x12)) :: K73m1) az b fun ak aa => ?_
  rcases Bool.eq_false_or_eq_true ((!x12)) with k | k
  ·
   rw [k, cond_true] at H
   have a0 : Kn 35 [(a, 0)] ((tB 14 true) :: K73m1) ak := (aa.setB 14 true (by rfl) k).kp
   refine Rk 5 21 [(tB 9 true)] a0 b fun bp ab => ?_
   refine wf (wC true ab (fun hb => ?_) (fun hb => ?_))
   rotate_left
   ·
    cases hb
   refine wp_seq (wp_region_from (Rk 0 1 [(tI 2 1)] ab b fun bq a1 => ?_))
   refine wf (wp_ret ?_)
   obtain rfl := Option.some.inj H
   exact rt (.one (.c (.int .i64 1))) a1 b rfl
  ·
   rw [k, cond_false] at H
   have a2 : Kn 35 [(a, 0)] ((tB 14 false) :: K73m1) ak := (aa.setB 14 false (by rfl) k).kp
   refine Rk 5 8 ((tB 22 (((s.pits.length : Nat) : Int) != s.days)) :: K73m1) a2 b fun al ac => ?_
   rcases Bool.eq_false_or_eq_true ((((s.pits.length : Nat) : Int) != s.days)) with l | l
   ·
    rw [l, cond_true] at H
    have a3 : Kn 35 [(a, 0)] ((tB 22 true) :: K73m1) al := (ac.setB 22 true (by rfl) l).kp
    refine Rk 13 13 [(tB 9 true)] a3 b fun br ad => ?_
    refine wf (wC true ad (fun hb => ?_) (fun hb => ?_))
    rotate_left
    ·
     cases hb
    refine wp_seq (wp_region_from (Rk 0 1 [(tI 2 1)] ad b fun bs a4 => ?_))
    refine wf (wp_ret ?_)
    obtain rfl := Option.some.inj H
    exact rt (.one (.c (.int .i64 1))) a4 b rfl
   ·
    rw [l, cond_false] at H
    have a5 : Kn 35 [(a, 0)] ((tB 22 false) :: K73m1) al := (ac.setB 22 false (by rfl) l).kp
    refine Rk 13 3 [(25, .one (.c (.func (.func 92) #[] #[]))), (tS 24 f s.pits.length i), (tB 22 false), (tP 1 0 0)] a5 b fun bt ae => ?_
    obtain ⟨x26, ex26, H⟩ := bnd H
    refine wpFrom_loud _ rfl (wantedS_sound ae (by kernel_rfl)) fun K hK => ?_
    refine wc [.c (.slice f s.pits.length i), .c (.func (.func 92) #[] #[])] ae b (pit_all_int_ok n b.has s.pits q (fun (y0 : Int) => pit_Shop_check_1 n y0) (show Fn3 aq (.func (.func 92) #[] #[]) (fun (y0 : Int) => pit_Shop_check_1 n y0) from fun h2 w2 hle hh y0 r H => ⟨92, _, _, rfl, fun _ _ => by kernel_rfl, pit_Shop_check_1_ok n hh y0 H⟩) ex26) fun b2 ar b5 ao aj j => ?_
    replace p := p.mono aj
    replace q := q.mono aj
    obtain rfl := ao
    refine ⟨.one (.c (.bool x26)), rfl, fun be (a6 : Kn 35 [(a, 0)] [(tB 26 x26), (25, .one (.c (.func (.func 92) #[] #[]))), (tS 24 f s.pits.length i), (tB 22 false), (tP 1 0 0)] be) => hK _ _ ?_⟩
    refine Rk 17 3 [(tB 29 (!x26)), (tP 1 0 0)] a6 j fun am af => ?_
    rcases Bool.eq_false_or_eq_true ((!x26)) with m | m
    ·
     rw [m, cond_true] at H
     have a7 : Kn 35 [(a, 0)] [(tB 29 true), (tP 1 0 0)] am := (af.setB 29 true (by rfl) m).kp
     refine Rk 20 6 [(tB 9 true)] a7 j fun bu ag => ?_
     refine wf (wC true ag (fun hb => ?_) (fun hb => ?_))
     rotate_left
     ·
      cases hb
     refine wp_seq (wp_region_from (Rk 0 1 [(tI 2 1)] ag j fun bv a8 => ?_))
     refine wf (wp_ret ?_)
     obtain rfl := Option.some.inj H
     exact rt (.one (.c (.int .i64 1))) a8 j rfl
    ·
     rw [m, cond_false] at H
     have a9 : Kn 35 [(a, 0)] [(tB 29 false), (tP 1 0 0)] am := (af.setB 29 false (by rfl) m).kp
     refine Rk 20 2 [(tS 31 e s.buses.length g), (tB 29 false)] a9 j fun bw ah => ?_
     obtain ⟨x32, ex32, H⟩ := bnd H
     refine wpFrom_loud _ rfl (wantedS_sound ah (by kernel_rfl)) fun K hK => ?_
     refine wc [.c (.slice e s.buses.length g), .c (.func (.func 94) #[] #[])] ah j (pit_all_pit_Job_ok n j.has s.buses p (fun (y0 : Job) => pit_Job_valid n y0) (show Fn4 ar (.func (.func 94) #[] #[]) (fun (y0 : Job) => pit_Job_valid n y0) from fun h2 w2 hle hh y0 cs0 hy0 r H => ⟨94, _, _, rfl, fun _ _ => by kernel_rfl, pit_Job_valid_ok n hh y0 hy0 H⟩) ex32) fun b3 bi b6 ap bj o => ?_
     obtain rfl := ap
     refine ⟨.one (.c (.bool x32)), rfl, fun bf (ba : Kn 35 [(a, 0)] [(tB 32 x32), (tS 31 e s.buses.length g), (tB 29 false)] bf) => hK _ _ ?_⟩
     refine Rk 23 3 [(tB 9 (!x32))] ba o fun bx z => ?_
     refine wf (wC ((!x32)) z (fun x => ?_) (fun x => ?_))
     ·
      rw [x, cond_true] at H
      refine wp_seq (wp_region_from (Rk 0 1 [(tI 2 1)] z o fun bz bb => ?_))
      refine wf (wp_ret ?_)
      obtain rfl := Option.some.inj H
      exact rt (.one (.c (.int .i64 1))) bb o rfl
     ·
      rw [x, cond_false] at H
      refine wp_skip (wp_seq (wp_region_from (Rk 0 1 [(tI 2 0)] z o fun b0 bc => ?_)))
      refine wf (wp_ret ?_)
      obtain rfl := Option.some.inj H
      exact rt (.one (.c (.int .i64 0))) bc o rfl
abbrev K76c1 (j : Job) : List SC := [.int .i64 j.due, .int .i64 j.work, .int .i64 j.cost]
abbrev K76c2 (a : Option Addr) (s : Shop) (e : Nat) (b : Option Addr) (f : Nat) : List SC := [.slice a s.buses.length e, .int .i64 s.days, .slice b s.pits.length f]
abbrev K76m3 (day : Int) (j : Job) : TM := [(tI 11 (IntKind.i64.wrap (day - j.due))), (tP 4 1 0), (tP 3 0 0), (tI 2 day)]
set_option maxRecDepth 100000 in
set_option maxHeartbeats 4000000 in
theorem pit_Shop_cost_ok (n : Nat) {h : Heap} {w : World} (hh : Has h w) (s : Shop) {cs_s : List Value} (hx_s : rep h s cs_s) (j : Job) {cs_j : List Value} (hx_j : rep h j cs_j) (day : Int) {r : Int} (H : pit_Shop_cost n s j day = some r) :
  Calls Try.prog 76 #[.agg cs_s.toArray, .agg cs_j.toArray, .int .i64 day] w (Ret (fun h v => v = .int .i64 r) h w) := by
 obtain ⟨_, _, rfl, ⟨a, e, rfl, aj⟩, ⟨_, _, rfl, rfl, ⟨b, f, rfl, ak⟩⟩⟩ := hx_s
 obtain ⟨_, _, rfl, rfl, ⟨_, _, rfl, rfl, rfl⟩⟩ := hx_j
 refine enter 28 [.agg (K76c2 a s e b f), .agg (K76c1 j), .c (.int .i64 day)] Try.func76 rfl rfl rfl rfl fun t hk => ?_
 have hm := Mem.begin h w hh
 unfold pit_Shop_cost at H
 refine wp_seq (wp_region_from (wl fun K hK => ?_))
 refine wb (.agg (K76c2 a s e b f)) hk hm fun d be bg (ap : Kn 28 [(d, 0)] [(tP 3 0 0), (tA 0 (K76c2 a s e b f)), (tA 1 (K76c1 j)), (tI 2 day)] be) (a5 : Mem ⟨w, h, noX⟩ h [(d, 0)] [⟨(K76c2 a s e b f), some 79⟩] [] bg) => hK _ _ ?_
 refine wl fun K hK => ?_
 refine wb (.agg (K76c1 j)) ap a5 fun g a9 bf (aq : Kn 28 [(d, 0), (g, 0)] [(tP 4 1 0), (tP 3 0 0), (tA 0 (K76c2 a s e b f)), (tA 1 (K76c1 j)), (tI 2 day)] a9) (ac : Mem ⟨w, h, noX⟩ h [(d, 0), (g, 0)] [⟨(K76c2 a s e b f), some 79⟩, ⟨(K76c1 j), some 120⟩] [] bf) => hK _ _ ?_
 refine Rk 2 1 [(tP 4 1 0), (tP 3 0 0), (tI 2 day)] aq ac fun bj ar => ?_
 refine wf (wp_seq (wp_region_from (Rk 0 4 (K76m3 day j) ar ac fun bk au => ?_)))
 refine wl fun K hK => ?_
 refine wS 3 1 [.int .i64 0, .int .i64 (IntKind.i64.wrap (day - j.due))] au ac fun k ba al (av : Kn 28 [(d, 0), (g, 0)] ((tS 12 k 2 2) :: (K76m3 day j)) ba) (ah : Mem ⟨w, h, noX⟩ h [(d, 0), (g, 0)] [⟨(K76c2 a s e b f), some 79⟩, ⟨(K76c1 j), some 120⟩] [⟨k, 2, 2, 3, 1, ([.int .i64 0, .int .i64 (IntKind.i64.wrap (day - j.due))] : List Value), 0⟩] al) => ?_
 have o : Cells h ([0, IntKind.i64.wrap (day - j.due)] : List Int) ([.int .i64 0, .int .i64 (IntKind.i64.wrap (day - j.due))] : List Value) := ⟨_, _, rfl, (rep_int : rep h (0 : Int) _), ⟨_, _, rfl, (rep_int : rep h (IntKind.i64.wrap (day - j.due) : Int) _), rfl⟩⟩
 refine hK _ _ ?_
 obtain ⟨af, ab, a7, u⟩ := ah.settle (i := 0) rfl
 replace o := o.mono ab
 replace u : Mem ⟨w, h, noX⟩ af [(d, 0), (g, 0)] [⟨(K76c2 a s e b f), some 79⟩, ⟨(K76c1 j), some 120⟩] [⟨k, 2, 2, 3, 1, ([.int .i64 0, .int .i64 (IntKind.i64.wrap (day - j.due))] : List Value), (([.int .i64 0, .int .i64 (IntKind.i64.wrap (day - j.due))] : List Value) : List Value).length⟩] al := u
 have ae : RepS af k 2 ([0, IntKind.i64.wrap (day - j.due)] : List Int) := ⟨_, o, a7, ah.rowCap (i := 0) rfl⟩
 obtain ⟨x13, ex13, H⟩ := bnd H
 refine wl fun K hK => ?_
 refine wc [.c (.slice k 2 2)] av u (pit_later_ok n u.has ([0, IntKind.i64.wrap (day - j.due)] : List Int) ae ex13) fun br p bt an q m => ?_
 replace aj := aj.mono (Heap.le_trans ab q)
 replace ak := ak.mono (Heap.le_trans ab q)
 replace ae := ae.mono q
 replace o := o.mono q
 obtain rfl := an
 refine ⟨.one (.c (.int .i64 x13)), rfl, fun bb (aw : Kn 28 [(d, 0), (g, 0)] ((tI 13 x13) :: (tS 12 k 2 2) :: (K76m3 day j)) bb) => hK _ _ ?_⟩
 refine Rk 6 1 [(tI 7 x13), (tP 4 1 0), (tP 3 0 0), (tI 2 day)] aw m fun bl ax => ?_
 refine wf (wp_seq (wp_seq (wp_region_from (Rk 0 2 [(tB 15 (day == (-1))), (tI 7 x13), (tP 4 1 0), (tP 3 0 0)] ax m fun bm aa => ?_))))
 refine wf (wC ((day == (-1))) aa (fun y => ?_) (fun y => ?_))
 ·
  rw [y, cond_true] at H
  refine wp_region_from (Rk 0 5 [(tI 20 (IntKind.i64.wrap (s.days - j.due))), (tP 4 1 0)] aa m fun bn ay => ?_)
  refine wl fun K hK => ?_
  refine wS 3 1 [.int .i64 0, .int .i64 (IntKind.i64.wrap (s.days - j.due))] ay m fun l bc am (az : Kn 28 [(d, 0), (g, 0)] [(tS 21 l 2 2), (tI 20 (IntKind.i64.wrap (s.days - j.due))), (tP 4 1 0)] bc) (ai : Mem ⟨w, h, noX⟩ p [(d, 0), (g, 0)] [⟨(K76c2 a s e b f), some 79⟩, ⟨(K76c1 j), some 120⟩] [⟨k, 2, 2, 3, 1, ([.int .i64 0, .int .i64 (IntKind.i64.wrap (day - j.due))] : List Value), (([.int .i64 0, .int .i64 (IntKind.i64.wrap (day - j.due))] : List Value) : List Value).length⟩, ⟨l, 2, 2, 3, 1, ([.int .i64 0, .int .i64 (IntKind.i64.wrap (s.days - j.due))] : List Value), 0⟩] am) => ?_
  have z : Cells p ([0, IntKind.i64.wrap (s.days - j.due)] : List Int) ([.int .i64 0, .int .i64 (IntKind.i64.wrap (s.days - j.due))] : List Value) := ⟨_, _, rfl, (rep_int : rep p (0 : Int) _), ⟨_, _, rfl, (rep_int : rep p (IntKind.i64.wrap (s.days - j.due) : Int) _), rfl⟩⟩
  refine hK _ _ ?_
  obtain ⟨ag, a4, a8, x⟩ := ai.settle (i := 1) rfl
  replace z := z.mono a4
  replace x : Mem ⟨w, h, noX⟩ ag [(d, 0), (g, 0)] [⟨(K76c2 a s e b f), some 79⟩, ⟨(K76c1 j), some 120⟩] [⟨k, 2, 2, 3, 1, ([.int .i64 0, .int .i64 (IntKind.i64.wrap (day - j.due))] : List Value), (([.int .i64 0, .int .i64 (IntKind.i64.wrap (day - j.due))] : List Value) : List Value).length⟩, ⟨l, 2, 2, 3, 1, ([.int .i64 0, .int .i64 (IntKind.i64.wrap (s.days - j.due))] : List Value), (([.int .i64 0, .int .i64 (IntKind.i64.wrap (s.days - j.due))] : List Value) : List Value).length⟩] am := x
  have a6 : RepS ag l 2 ([0, IntKind.i64.wrap (s.days - j.due)] : List Int) := ⟨_, z, a8, ai.rowCap (i := 1) rfl⟩
  obtain ⟨x22, ex22, H⟩ := bnd H
  refine wl fun K hK => ?_
  refine wc [.c (.slice l 2 2)] az x (pit_later_ok n x.has ([0, IntKind.i64.wrap (s.days - j.due)] : List Int) a6 ex22) fun bs bh bu ao bi ad => ?_
  obtain rfl := ao
  refine ⟨.one (.c (.int .i64 x22)), rfl, fun bd (a0 : Kn 28 [(d, 0), (g, 0)] [(tI 22 x22), (tS 21 l 2 2), (tI 20 (IntKind.i64.wrap (s.days - j.due))), (tP 4 1 0)] bd) => hK _ _ ?_⟩
  refine Rk 7 2 [(tI 7 (IntKind.i64.wrap (x22 + 14))), (tP 4 1 0)] a0 ad fun bo a1 => ?_
  refine wf (wp_seq (wp_region_from (Rk 0 5 [(tI 6 (IntKind.i64.wrap ((IntKind.i64.wrap (x22 + 14)) * j.cost)))] a1 ad fun bp a2 => ?_)))
  refine wf (wp_ret ?_)
  obtain rfl := Option.some.inj H
  exact rt (.one (.c (.int .i64 (IntKind.i64.wrap ((IntKind.i64.wrap (x22 + 14)) * j.cost))))) a2 ad rfl
 ·
  rw [y, cond_false] at H
  refine wp_skip (wp_seq (wp_region_from (Rk 0 5 [(tI 6 (IntKind.i64.wrap (x13 * j.cost)))] aa m fun bq a3 => ?_)))
  refine wf (wp_ret ?_)
  obtain rfl := Option.some.inj H
  exact rt (.one (.c (.int .i64 (IntKind.i64.wrap (x13 * j.cost))))) a3 m rfl
set_option maxRecDepth 100000 in
set_option maxHeartbeats 4000000 in
theorem slices_Clone_int_int_ok (n : Nat) {h : Heap} {w : World} (hh : Has h w) (s : List Int) {a_s : Option Addr} {c_s : Nat} (hr_s : RepS h a_s c_s s) {r : List Int} (H : slices_Clone_int_int n s = some r) :
  Calls Try.prog 77 #[.slice a_s s.length c_s] w (Ret (fun h v => ∃ a c, v = .slice a r.length c ∧ RepS h a c r) h w) := by
 refine enter 8 [.c (.slice a_s s.length c_s)] Try.func77 rfl rfl rfl rfl fun t hk => ?_
 have hm := Mem.begin h w hh
 unfold slices_Clone_int_int at H
 refine wp_seq (wp_region_from (Rk 0 1 [(tS 0 a_s s.length c_s)] hk hm fun ap ad => ?_))
 refine wf (wp_seq (wp_seq (wp_region_from (Rk 0 2 [(tB 4 a_s.isNone), (tS 0 a_s s.length c_s)] ad hm fun ar k => ?_))))
 refine wf (wC (a_s.isNone) k (fun x => ?_) (fun x => ?_))
 ·
  obtain rfl := RepS.isNil hr_s (by decide) x
  replace H : some ([] : List Int) = some r := by simpa [app] using H
  refine wp_seq (wp_region_from (Rk 0 1 [(tS 2 none 0 0)] k hm fun av ag => ?_))
  refine wf (wp_ret ?_)
  obtain rfl := Option.some.inj H
  exact rt (.one (.c (.slice none 0 0))) ag hm ⟨_, _, rfl, RepS.nil⟩
 ·
  refine wp_skip (wp_seq (wp_region_from (wl fun K hK => ?_)))
  refine wS 3 1 [] k hm fun f an ao (ab : Kn 8 [] [(tS 5 f 0 0), (tB 4 a_s.isNone), (tS 0 a_s s.length c_s)] an) (l : Mem ⟨w, h, noX⟩ h [] [] [⟨f, 0, 0, 3, 1, ([] : List Value), 0⟩] ao) => ?_
  have z : Cells h ([] : List Int) ([] : List Value) := Cells.nil
  refine hK _ _ ?_
  refine Rk 1 1 [(tS 6 a_s s.length c_s), (tS 5 f 0 0)] ab l fun aq ac => ?_
  obtain ⟨e, g, al, _⟩ := id hr_s
  obtain ⟨x7, ex7, H⟩ := bnd H
  obtain ⟨p, ah⟩ := app_some ex7
  refine wl fun K hK => ?_
  refine wp_append 0 8 s.length _ (x7.length) _ e ac l rfl rfl (by decide) rfl (by rfl) (by kernel_rfl) (by rfl) (by rfl) (Cells.len g) (al.cell l.has g.one) g.one (by rw [p]; simp <;> omega) (by rw [p]; exact ah) (by decide) fun b d q am y aa (ae : Kn 8 [] [(tS 7 b x7.length d), (tS 6 a_s s.length c_s), (tS 5 f 0 0)] am) (m : Mem ⟨w, h, noX⟩ h [] [] [⟨b, x7.length, d, 3, 1, (([] : List Value) ++ e), q⟩] y) => ?_
  have j : Cells h x7 (([] : List Value) ++ e) := by rw [p]; exact Cells.append z g
  obtain rfl : q = 0 := Nat.le_zero.1 aa
  refine hK _ _ ?_
  refine Rk 3 1 [(tS 2 b x7.length d)] ae m fun au af => ?_
  refine wf (wp_ret ?_)
  obtain ⟨u, ai, ak, o⟩ := m.settle (i := 0) rfl
  replace j := j.mono ai
  replace o : Mem ⟨w, h, noX⟩ u [] [] [⟨b, x7.length, d, 3, 1, (([] : List Value) ++ e), ((([] : List Value) ++ e) : List Value).length⟩] y := o
  have aj : RepS u b d x7 := ⟨_, j, ak, m.rowCap (i := 0) rfl⟩
  obtain rfl := Option.some.inj H
  exact rt (.one (.c (.slice b x7.length d))) af o ⟨_, _, rfl, aj⟩
abbrev K41c1 (x32 : Job) : List SC := [.int .i64 x32.due, .int .i64 x32.work, .int .i64 x32.cost]
abbrev K41c2 (d : Option Addr) (s : Shop) (e : Nat) (a : Option Addr) (b : Nat) : List SC := [.slice d s.buses.length e, .int .i64 s.days, .slice a s.pits.length b]
abbrev K41m3 (x_v11 x22 x_v10 : Int) (s : Shop) (a : Option Addr) (b : Nat) : TM := [(tI 5 (IntKind.i64.wrap (x_v11 + x22))), (tI 6 x_v10), (tI 19 x_v10), (tI 18 ((s.pits.length : Nat) : Int)), (tS 17 a s.pits.length b), (tP 1 0 0)]
abbrev K41m4 (x_v20 : Int) (s : Shop) (d : Option Addr) (e : Nat) (x_v21 x_v11 x22 x_v10 : Int) (a : Option Addr) (b : Nat) : TM := (tI 30 x_v20) :: (tI 29 ((s.buses.length : Nat) : Int)) :: (tS 28 d s.buses.length e) :: (tI 8 x_v21) :: (K41m3 x_v11 x22 x_v10 s a b)
abbrev K41m5 (x_v10 : Int) (s : Shop) (a : Option Addr) (b : Nat) (x_v11 : Int) : TM := [(tI 19 x_v10), (tI 18 ((s.pits.length : Nat) : Int)), (tS 17 a s.pits.length b), (tI 5 x_v11), (tP 1 0 0)]
set_option maxRecDepth 100000 in
set_option maxHeartbeats 4000000 in
theorem pit_Short_ok (n : Nat) {h : Heap} {w : World} (hh : Has h w) (s : Shop) {cs_s : List Value} (hx_s : rep h s cs_s) {r : Int × Int} (H : pit_Short n s = some r) :
  Calls Try.prog 41 #[.agg cs_s.toArray] w (Ret (fun h v => ∃ v0 v1, v = .tuple #[v0, v1] ∧ (v0 = .int .i64 r.1) ∧ (v1 = .int .i64 r.2)) h w) := by
 obtain ⟨_, _, rfl, ⟨d, e, rfl, m⟩, ⟨_, _, rfl, rfl, ⟨a, b, rfl, y⟩⟩⟩ := hx_s
 refine enter 48 [.agg (K41c2 d s e a b)] Try.func41 rfl rfl rfl rfl fun t hk => ?_
 have hm := Mem.begin h w hh
 unfold pit_Short at H
 refine wp_seq (wp_region_from (wl fun K hK => ?_))
 refine wb (.agg (K41c2 d s e a b)) hk hm fun f cq cw (bh : Kn 48 [(f, 0)] [(tP 1 0 0), (tA 0 (K41c2 d s e a b))] cq) (af : Mem ⟨w, h, noX⟩ h [(f, 0)] [⟨(K41c2 d s e a b), some 79⟩] [] cw) => hK _ _ ?_
 refine Rk 1 2 [(tP 1 0 0)] bh af fun c3 br => ?_
 refine wf (wp_seq (wp_seq (wp_region_from (Rk 0 1 [(tA 11 (K41c2 d s e a b)), (tP 1 0 0)] br af fun da bw => ?_))))
 obtain ⟨x12, ex12, H⟩ := bnd H
 refine wl fun K hK => ?_
 refine wc [.agg (K41c2 d s e a b)] bw af (pit_Shop_check_ok n af.has s ((rep_pair (rep_slice m) (rep_pair rep_int (rep_slice y))) : rep h s _) ex12) fun dn a5 dr bc a6 o => ?_
 replace m := m.mono a6
 replace y := y.mono a6
 obtain rfl := bc
 refine ⟨.one (.c (.int .i64 x12)), rfl, fun co (bx : Kn 48 [(f, 0)] [(tI 12 x12), (tA 11 (K41c2 d s e a b)), (tP 1 0 0)] co) => hK _ _ ?_⟩
 refine Rk 2 1 [(tI 4 x12), (tP 1 0 0)] bx o fun db bz => ?_
 refine wf (wp_seq (wp_region_from (Rk 0 2 [(tB 14 (x12 != 0)), (tI 4 x12), (tP 1 0 0)] bz o fun dc av => ?_)))
 refine wf (wC ((x12 != 0)) av (fun ao => ?_) (fun ao => ?_))
 ·
  rw [ao, cond_true] at H
  refine wp_seq (wp_region_from (Rk 0 3 [(tI 3 x12), (tI 2 0)] av o fun dd b0 => ?_))
  refine wf (wp_ret ?_)
  obtain rfl := Option.some.inj H
  exact rt (.tup [.c (.int .i64 0), .c (.int .i64 x12)]) b0 o ⟨_, _, rfl, rfl, rfl⟩
 ·
  rw [ao, cond_false] at H
  refine wp_skip (wp_seq (wp_region_from (Rk 0 1 [(tI 5 0), (tP 1 0 0)] av o fun de b1 => ?_)))
  refine wf (wp_seq (wp_seq (wp_region_from (Rk 0 4 [(tI 19 0), (tI 18 ((s.pits.length : Nat) : Int)), (tS 17 a s.pits.length b), (tI 5 0), (tP 1 0 0)] b1 o fun df b2 => ?_))))
  refine wf ?_
  obtain ⟨a9, a3, H⟩ := bnd H
  refine wp_mid' (fun a' w' => ∃ (ba : Unit) (az : Array Value) (ak : Heap), a' = ⟨az, []⟩ ∧ Kn 48 [(f, 0)] [] az ∧ Mem ⟨w, h, noX⟩ ak [(f, 0)] [⟨(K41c2 d s e a b), some 79⟩] [] w' ∧ Heap.le a5 ak ∧ a9 = .go ba) ?_ ?_
  ·
   refine wp_block ?_
   refine wp_loop_n (fun cl a' w' => ∃ (x_v10 : Int) (x_v11 : Int) (a0 : Array Value) (q : Heap), a' = ⟨a0, []⟩ ∧ Kn 48 [(f, 0)] (K41m5 x_v10 s a b x_v11) a0 ∧ Mem ⟨w, h, noX⟩ q [(f, 0)] [⟨(K41c2 d s e a b), some 79⟩] [] w' ∧ Heap.le a5 q ∧ pit_Short_l1 cl s x_v10 x_v11 = some a9) n ?_ ?_
   ·
    exact Exists.intro 0 ⟨0, _, _, rfl, b2.kp, o, (Heap.le_refl _), a3⟩
   ·
    rintro ah _ cu ⟨x_v10, x_v11, a0, q, rfl, b3, ag, ad, g⟩
    clear a3
    obtain _ | ah := ah
    ·
     rw [pit_Short_l1] at g; cases g
    rw [pit_Short_l1] at g
    replace m := m.mono ad
    replace y := y.mono ad
    refine wp_seq (wp_region_from (Rk 0 1 ((tB 20 (decide (x_v10 < ((s.pits.length : Nat) : Int)))) :: (K41m5 x_v10 s a b x_v11)) b3 ag fun dg aw => ?_))
    refine wf (wp_seq (wC (decide (x_v10 < ((s.pits.length : Nat) : Int))) aw (fun ap => ?_) (fun ap => ?_)))
    ·
     rw [ap, cond_true] at g
     refine wp_skip (wp_seq (wp_block (wp_seq (wp_region_from (Rk 0 1 ((tI 21 x_v10) :: (K41m5 x_v10 s a b x_v11)) aw ag fun dh b4 => ?_)))))
     obtain ⟨x22, ex22, g⟩ := bnd g
     obtain ⟨cd, cf, ck⟩ := idx_some ex22
     obtain ⟨i, l, cx, bd, ch, bf⟩ := y.get (by decide) ck
     obtain rfl := ch
     have ab : Mem ⟨w, h, noX⟩ q [(f, 0), (i, l + (x_v10 : Int).toNat * 1)] [⟨(K41c2 d s e a b), some 79⟩, ⟨[.int .i64 x22], none⟩] [] cu := ag.addPlc (cs := [.int .i64 x22]) (fun j c hj => bf j _ (map_get hj)) rfl (by kernel_rfl) (by kernel_rfl)
     refine R_index 1 (x_v10) rfl rfl (rfl) rfl (by decide) b4 (by rfl) (by rfl) (by rfl) bd (by rfl) cd cf (by kernel_rfl) fun cp (b5 : Kn 48 [(f, 0), (i, l + (x_v10 : Int).toNat * 1)] ((tP 22 1 0) :: (tI 21 x_v10) :: (K41m5 x_v10 s a b x_v11)) cp) => ?_
     refine Rk 2 3 ((tI 7 x22) :: (tI 6 x_v10) :: (K41m5 x_v10 s a b x_v11)) b5 ab fun di b6 => ?_
     refine wf (wp_seq (wp_region_from (Rk 0 4 (K41m3 x_v11 x22 x_v10 s a b) b6 ab fun dj b7 => ?_)))
     refine wf (wp_seq (wp_region_from (Rk 0 1 ((tI 8 0) :: (K41m3 x_v11 x22 x_v10 s a b)) b7 ab fun dk b8 => ?_)))
     refine wf (wp_seq (wp_seq (wp_region_from (Rk 0 4 ((tI 30 0) :: (tI 29 ((s.buses.length : Nat) : Int)) :: (tS 28 d s.buses.length e) :: (tI 8 0) :: (K41m3 x_v11 x22 x_v10 s a b)) b8 ab fun dl b9 => ?_))))
     refine wf ?_
     obtain ⟨aj, a4, g⟩ := bnd g
     refine wp_mid' (fun a' w' => ∃ (a1 : Array Value) (al : Heap), a' = ⟨a1, []⟩ ∧ Kn 48 [(f, 0), (i, l + (x_v10 : Int).toNat * 1)] ((tI 8 aj) :: (K41m3 x_v11 x22 x_v10 s a b)) a1 ∧ Mem ⟨w, h, noX⟩ al [(f, 0), (i, l + (x_v10 : Int).toNat * 1)] [⟨(K41c2 d s e a b), some 79⟩, ⟨[.int .i64 x22], none⟩] [] w' ∧ Heap.le q al) ?_ ?_
     ·
      refine wp_block ?_
      refine wp_loop_n (fun cm a' w' => ∃ (x_v20 : Int) (x_v21 : Int) (a2 : Array Value) (u : Heap), a' = ⟨a2, []⟩ ∧ Kn 48 [(f, 0), (i, l + (x_v10 : Int).toNat * 1)] (K41m4 x_v20 s d e x_v21 x_v11 x22 x_v10 a b) a2 ∧ Mem ⟨w, h, noX⟩ u [(f, 0), (i, l + (x_v10 : Int).toNat * 1)] [⟨(K41c2 d s e a b), some 79⟩, ⟨[.int .i64 x22], none⟩] [] w' ∧ Heap.le q u ∧ pit_Short_l2 cm s x_v10 x_v20 x_v21 = some aj) ah ?_ ?_
      ·
       exact Exists.intro 0 ⟨0, _, _, rfl, b9.kp, ab, (Heap.le_refl _), a4⟩
      ·
       rintro ai _ cv ⟨x_v20, x_v21, a2, u, rfl, ca, ay, ae, k⟩
       clear a4
       obtain _ | ai := ai
       ·
        rw [pit_Short_l2] at k; cases k
       rw [pit_Short_l2] at k
       replace m := m.mono ae
       refine wp_seq (wp_region_from (Rk 0 1 ((tB 31 (decide (x_v20 < ((s.buses.length : Nat) : Int)))) :: (K41m4 x_v20 s d e x_v21 x_v11 x22 x_v10 a b)) ca ay fun dm ax => ?_))
       refine wf (wp_seq (wC (decide (x_v20 < ((s.buses.length : Nat) : Int))) ax (fun aq => ?_) (fun aq => ?_)))
       ·
        rw [aq, cond_true] at k
        refine wp_skip (wp_seq (wp_block (wp_seq (wp_region_from ?_))))
        obtain ⟨x32, ex32, k⟩ := bnd k
        obtain ⟨ce, cg, cj⟩ := idx_some ex32
        obtain ⟨p, z, cy, be, ci, bg⟩ := m.get (by decide) cj
        obtain ⟨_, _, rfl, rfl, ⟨_, _, rfl, rfl, rfl⟩⟩ := ci
        have a7 : Mem ⟨w, h, noX⟩ u [(f, 0), (i, l + (x_v10 : Int).toNat * 1), (p, z + (x_v20 : Int).toNat * 3)] [⟨(K41c2 d s e a b), some 79⟩, ⟨[.int .i64 x22], none⟩, ⟨(K41c1 x32), none⟩] [] cv := ay.addPlc (cs := (K41c1 x32)) (fun j c hj => bg j _ (map_get hj)) rfl (by kernel_rfl) (by kernel_rfl)
        refine R_index 0 (x_v20) rfl rfl (rfl) rfl (by decide) ax (by rfl) (by rfl) (by rfl) be (by rfl) ce cg (by kernel_rfl) fun cn (bi : Kn 48 [(f, 0), (i, l + (x_v10 : Int).toNat * 1), (p, z + (x_v20 : Int).toNat * 3)] ((tP 32 2 0) :: (tB 31 (decide (x_v20 < ((s.buses.length : Nat) : Int)))) :: (K41m4 x_v20 s d e x_v21 x_v11 x22 x_v10 a b)) cn) => ?_
        refine Rk 1 1 ((tA 33 (K41c1 x32)) :: (K41m4 x_v20 s d e x_v21 x_v11 x22 x_v10 a b)) bi a7 fun c0 bj => ?_
        refine wl fun K hK => ?_
        refine wa [.int .i64 0, .int .i64 0, .int .i64 0] bj a7 fun ac bb cr (bk : Kn 48 [(f, 0), (i, l + (x_v10 : Int).toNat * 1), (p, z + (x_v20 : Int).toNat * 3), (ac, 0)] ((tP 10 3 0) :: (tA 33 (K41c1 x32)) :: (K41m4 x_v20 s d e x_v21 x_v11 x22 x_v10 a b)) bb) (cc : Mem ⟨w, h, noX⟩ u [(f, 0), (i, l + (x_v10 : Int).toNat * 1), (p, z + (x_v20 : Int).toNat * 3), (ac, 0)] [⟨(K41c2 d s e a b), some 79⟩, ⟨[.int .i64 x22], none⟩, ⟨(K41c1 x32), none⟩, ⟨[.int .i64 0, .int .i64 0, .int .i64 0], some 120⟩] [] cr) => hK _ _ ?_
        refine wl fun K hK => ?_
        refine wst 3 0 (.agg (K41c1 x32)) (K41c1 x32) bk cc fun ct bl (x : Mem ⟨w, h, noX⟩ u [(f, 0), (i, l + (x_v10 : Int).toNat * 1), (p, z + (x_v20 : Int).toNat * 3), (ac, 0)] [⟨(K41c2 d s e a b), some 79⟩, ⟨[.int .i64 x22], none⟩, ⟨(K41c1 x32), none⟩, ⟨(K41c1 x32), some 120⟩] [] ct) => hK _ _ ?_
        have bm : Kn 48 [(f, 0), (i, l + (x_v10 : Int).toNat * 1), (p, z + (x_v20 : Int).toNat * 3), (ac, 0)] ((tP 10 3 0) :: (K41m4 x_v20 s d e x_v21 x_v11 x22 x_v10 a b)) bb := bl.kp
        refine wf (wp_seq (wp_region_from (Rk 0 4 ((tB 37 (decide (x32.due ≤ x_v10))) :: (tP 10 3 0) :: (K41m4 x_v20 s d e x_v21 x_v11 x22 x_v10 a b)) bm x fun c1 ar => ?_)))
        refine wf (wC (decide (x32.due ≤ x_v10)) ar (fun am => ?_) (fun am => ?_))
        ·
         rw [am, cond_true] at k
         refine wp_region_from (Rk 0 5 ((tI 8 (IntKind.i64.wrap (x_v21 + x32.work))) :: (tI 30 x_v20) :: (tI 29 ((s.buses.length : Nat) : Int)) :: (tS 28 d s.buses.length e) :: (K41m3 x_v11 x22 x_v10 s a b)) ar x fun c2 bn => ?_)
         refine wf (wp_region_from (Rk 0 2 ((tI 30 (IntKind.i64.wrap (x_v20 + 1))) :: (tI 8 (IntKind.i64.wrap (x_v21 + x32.work))) :: (tI 29 ((s.buses.length : Nat) : Int)) :: (tS 28 d s.buses.length e) :: (K41m3 x_v11 x22 x_v10 s a b)) bn x fun c4 bo => ?_))
         refine wf ?_
         exact Exists.intro ai ⟨Nat.lt_succ_self _, Exists.intro (IntKind.i64.wrap (x_v20 + 1)) ⟨(IntKind.i64.wrap (x_v21 + x32.work)), _, _, rfl, ((bo.keep [30, 29, 28, 8, 5, 6, 19, 18, 17, 1] (by rfl)).cut 2 (by kernel_rfl)), (x.cutPl 2 (by kernel_rfl)), ae, k⟩⟩
        ·
         rw [am, cond_false] at k
         refine wp_skip (wp_region_from (Rk 0 2 ((tI 30 (IntKind.i64.wrap (x_v20 + 1))) :: (tI 29 ((s.buses.length : Nat) : Int)) :: (tS 28 d s.buses.length e) :: (tI 8 x_v21) :: (K41m3 x_v11 x22 x_v10 s a b)) ar x fun c5 bp => ?_))
         refine wf ?_
         exact Exists.intro ai ⟨Nat.lt_succ_self _, Exists.intro (IntKind.i64.wrap (x_v20 + 1)) ⟨x_v21, _, _, rfl, ((bp.keep [30, 29, 28, 8, 5, 6, 19, 18, 17, 1] (by rfl)).cut 2 (by kernel_rfl)), (x.cutPl 2 (by kernel_rfl)), ae, k⟩⟩
       ·
        rw [aq, cond_false] at k
        refine wp_exit ?_
        obtain rfl := Option.some.inj k
        exact Exists.intro _ ⟨_, rfl, ax.kp, ay, ae⟩
     ·
      rintro _ dp ⟨a1, al, rfl, bq, aa, cb⟩
      refine wp_seq (wp_region_from (Rk 0 3 ((tB 45 (decide ((IntKind.i64.wrap (x_v11 + x22)) < aj))) :: (K41m3 x_v11 x22 x_v10 s a b)) bq aa fun c6 au => ?_))
      refine wf (wC (decide ((IntKind.i64.wrap (x_v11 + x22)) < aj)) au (fun an => ?_) (fun an => ?_))
      ·
       rw [an, cond_true] at g
       refine wp_seq (wp_region_from (Rk 0 3 [(tI 3 0), (tI 2 x_v10)] au aa fun c7 bs => ?_))
       refine wf (wp_ret ?_)
       obtain rfl := Option.some.inj g
       obtain rfl := Option.some.inj H
       exact rt (.tup [.c (.int .i64 x_v10), .c (.int .i64 0)]) bs aa ⟨_, _, rfl, rfl, rfl⟩
      ·
       rw [an, cond_false] at g
       refine wp_skip (wp_region_from (Rk 0 2 [(tI 19 (IntKind.i64.wrap (x_v10 + 1))), (tI 5 (IntKind.i64.wrap (x_v11 + x22))), (tI 18 ((s.pits.length : Nat) : Int)), (tS 17 a s.pits.length b), (tP 1 0 0)] au aa fun c8 bt => ?_))
       refine wf ?_
       exact Exists.intro ah ⟨Nat.lt_succ_self _, Exists.intro (IntKind.i64.wrap (x_v10 + 1)) ⟨(IntKind.i64.wrap (x_v11 + x22)), _, _, rfl, ((bt.keep [19, 18, 17, 5, 1] (by rfl)).cut 1 (by kernel_rfl)), (aa.cutPl 1 (by kernel_rfl)), (Heap.le_trans ad cb), g⟩⟩
    ·
     rw [ap, cond_false] at g
     refine wp_exit ?_
     obtain rfl := Option.some.inj g
     exact Exists.intro () ⟨_, _, rfl, aw.kp, ag, ad, rfl⟩
  ·
   rintro _ dq ⟨ba, az, ak, rfl, bu, a8, cz, rfl⟩
   rw [Ex.bind_go] at H
   refine wp_seq (wp_region_from (Rk 0 2 [(tI 3 7), (tI 2 0)] bu a8 fun c9 bv => ?_))
   refine wf (wp_ret ?_)
   obtain rfl := Option.some.inj H
   exact rt (.tup [.c (.int .i64 0), .c (.int .i64 7)]) bv a8 ⟨_, _, rfl, rfl, rfl⟩
abbrev K47c1 (x45 : Job) : List SC := [.int .i64 x45.due, .int .i64 x45.work, .int .i64 x45.cost]
abbrev K47c2 (x55 : Job) : List SC := [.int .i64 x55.due, .int .i64 x55.work, .int .i64 x55.cost]
abbrev K47e3 (a f k l : Nat) (x_v10 : Int) : Env := [(a, 0), (f, 0), (k, l + (x_v10 : Int).toNat * 1)]
abbrev K47c4 (g : Option Addr) (s : Shop) (i : Nat) (b : Option Addr) (d : Nat) : List SC := [.slice g s.buses.length i, .int .i64 s.days, .slice b s.pits.length d]
abbrev K47e5 (a f k l : Nat) (x_v10 : Int) (ac ad : Nat) : Env := [(a, 0), (f, 0), (k, l + (x_v10 : Int).toNat * 1), (ac, ad + (x_v10 : Int).toNat * 3)]
abbrev K47c6 : List SC := [.int .i64 0, .int .i64 0, .int .i64 0, .int .i64 0, .int .i64 0, .int .i64 0, .int .i64 0, .int .i64 0, .int .i64 0, .int .i64 0, .int .i64 0, .int .i64 0, .int .i64 0, .int .i64 0]
abbrev K47c7 (x_v12 : Hours) : List SC := [.int .i64 x_v12.a0, .int .i64 x_v12.a1, .int .i64 x_v12.a2, .int .i64 x_v12.a3, .int .i64 x_v12.a4, .int .i64 x_v12.a5, .int .i64 x_v12.a6, .int .i64 x_v12.a7, .int .i64 x_v12.a8, .int .i64 x_v12.a9, .int .i64 x_v12.a10, .int .i64 x_v12.a11, .int .i64 x_v12.a12, .int .i64 x_v12.a13]
abbrev K47c8 (o : Hours) : List SC := [.int .i64 o.a0, .int .i64 o.a1, .int .i64 o.a2, .int .i64 o.a3, .int .i64 o.a4, .int .i64 o.a5, .int .i64 o.a6, .int .i64 o.a7, .int .i64 o.a8, .int .i64 o.a9, .int .i64 o.a10, .int .i64 o.a11, .int .i64 o.a12, .int .i64 o.a13]
abbrev K47c9 (p : Hours) : List SC := [.int .i64 p.a0, .int .i64 p.a1, .int .i64 p.a2, .int .i64 p.a3, .int .i64 p.a4, .int .i64 p.a5, .int .i64 p.a6, .int .i64 p.a7, .int .i64 p.a8, .int .i64 p.a9, .int .i64 p.a10, .int .i64 p.a11, .int .i64 p.a12, .int .i64 p.a13]
abbrev K47c10 (e : (Int × Hours)) : List SC := [.int .i64 e.2.a0, .int .i64 e.2.a1, .int .i64 e.2.a2, .int .i64 e.2.a3, .int .i64 e.2.a4, .int .i64 e.2.a5, .int .i64 e.2.a6, .int .i64 e.2.a7, .int .i64 e.2.a8, .int .i64 e.2.a9, .int .i64 e.2.a10, .int .i64 e.2.a11, .int .i64 e.2.a12, .int .i64 e.2.a13]
abbrev K47m11 (x_v10 : Int) (plan : List Int) (a_plan : Option Addr) (c_plan : Nat) (x_v11 most : Int) : TM := [(tI 26 x_v10), (tI 25 ((plan.length : Nat) : Int)), (tS 24 a_plan plan.length c_plan), (tI 8 x_v11), (tP 7 1 0), (tP 3 0 0), (tI 2 most)]
abbrev K47m12 (s : Shop) (b : Option Addr) (d : Nat) (e : (Int × Hours)) (most : Int) : TM := [(tI 63 ((s.pits.length : Nat) : Int)), (tS 62 b s.pits.length d), (tI 8 e.1), (tP 7 1 0), (tI 2 most)]
abbrev K47m13 (plan : List Int) (a_plan : Option Addr) (c_plan : Nat) (most : Int) : TM := [(tI 25 ((plan.length : Nat) : Int)), (tS 24 a_plan plan.length c_plan), (tP 7 1 0), (tP 3 0 0), (tI 2 most)]
abbrev K47m14 (a_plan : Option Addr) (plan : List Int) (c_plan : Nat) (most : Int) : TM := [(tP 3 0 0), (tS 1 a_plan plan.length c_plan), (tI 2 most)]
abbrev K47m15 (x29 x_v10 : Int) (plan : List Int) (a_plan : Option Addr) (c_plan : Nat) (x_v11 most : Int) : TM := (tI 10 x29) :: (tI 9 x_v10) :: (K47m11 x_v10 plan a_plan c_plan x_v11 most)
set_option maxRecDepth 100000 in
set_option maxHeartbeats 4000000 in
theorem pit_ProvePlan_ok (n : Nat) {h : Heap} {w : World} (hh : Has h w) (s : Shop) {cs_s : List Value} (hx_s : rep h s cs_s) (plan : List Int) {a_plan : Option Addr} {c_plan : Nat} (hr_plan : RepS h a_plan c_plan plan) (most : Int) {r : Bool} (H : pit_ProvePlan n s plan most = some r) :
  Calls Try.prog 47 #[.agg cs_s.toArray, .slice a_plan plan.length c_plan, .int .i64 most] w (Ret (fun h v => v = .bool r) h w) := by
 obtain ⟨_, _, rfl, ⟨g, i, rfl, z⟩, ⟨_, _, rfl, rfl, ⟨b, d, rfl, u⟩⟩⟩ := hx_s
 refine enter 78 [.agg (K47c4 g s i b d), .c (.slice a_plan plan.length c_plan), .c (.int .i64 most)] Try.func47 rfl rfl rfl rfl fun t hk => ?_
 have hm := Mem.begin h w hh
 unfold pit_ProvePlan at H
 refine wp_seq (wp_region_from (wl fun K hK => ?_))
 refine wb (.agg (K47c4 g s i b d)) hk hm fun a fd fl (c0 : Kn 78 [(a, 0)] [(tP 3 0 0), (tA 0 (K47c4 g s i b d)), (tS 1 a_plan plan.length c_plan), (tI 2 most)] fd) (ar : Mem ⟨w, h, noX⟩ h [(a, 0)] [⟨(K47c4 g s i b d), some 79⟩] [] fl) => hK _ _ ?_
 refine Rk 1 1 (K47m14 a_plan plan c_plan most) c0 ar fun f0 c4 => ?_
 refine wf (wp_seq (wp_seq ?_))
 obtain ⟨bw, ae, H⟩ := bnd H
 refine wp_mid' (fun a' w' => ∃ (b0 : Array Value) (ag : Heap), a' = ⟨b0, []⟩ ∧ Kn 78 [(a, 0)] [(tP 3 0 0), (tS 1 a_plan plan.length c_plan), (tI 2 most), (tB 23 bw)] b0 ∧ Mem ⟨w, h, noX⟩ ag [(a, 0)] [⟨(K47c4 g s i b d), some 79⟩] [] w' ∧ Heap.le h ag) ?_ ?_
 ·
  refine wp_region_from (Rk 0 1 ((tA 13 (K47c4 g s i b d)) :: (K47m14 a_plan plan c_plan most)) c4 ar fun f4 dh => ?_)
  obtain ⟨x14, ex14, ae⟩ := bnd ae
  refine wl fun K hK => ?_
  refine wc [.agg (K47c4 g s i b d)] dh ar (pit_Shop_check_ok n ar.has s ((rep_pair (rep_slice z) (rep_pair rep_int (rep_slice u))) : rep h s _) ex14) fun gu fs gy cp ce al => ?_
  obtain rfl := cp
  refine ⟨.one (.c (.int .i64 x14)), rfl, fun fc (du : Kn 78 [(a, 0)] ((tI 14 x14) :: (tA 13 (K47c4 g s i b d)) :: (K47m14 a_plan plan c_plan most)) fc) => hK _ _ ?_⟩
  refine Rk 2 2 ((tB 16 (x14 != 0)) :: (K47m14 a_plan plan c_plan most)) du al fun cl cc => ?_
  rcases Bool.eq_false_or_eq_true ((x14 != 0)) with ai | ai
  ·
   rw [ai, cond_true] at ae
   have dv : Kn 78 [(a, 0)] ((tB 16 true) :: (K47m14 a_plan plan c_plan most)) cl := (cc.setB 16 true (by rfl) ai).kp
   refine Rk 4 7 ((tB 23 true) :: (K47m14 a_plan plan c_plan most)) dv al fun gh dw => ?_
   refine wf ?_
   obtain rfl := Option.some.inj ae
   exact Exists.intro _ ⟨_, rfl, dw.kp, al, ce⟩
  ·
   rw [ai, cond_false] at ae
   have dx : Kn 78 [(a, 0)] ((tB 16 false) :: (K47m14 a_plan plan c_plan most)) cl := (cc.setB 16 false (by rfl) ai).kp
   refine Rk 4 7 ((tB 23 (((plan.length : Nat) : Int) != ((s.buses.length : Nat) : Int))) :: (K47m14 a_plan plan c_plan most)) dx al fun gi dy => ?_
   refine wf ?_
   obtain rfl := Option.some.inj ae
   exact Exists.intro _ ⟨_, rfl, dy.kp, al, ce⟩
 ·
  rintro _ g0 ⟨b0, ag, rfl, bl, bt, bq⟩
  replace z := z.mono bq
  replace u := u.mono bq
  replace hr_plan := hr_plan.mono bq
  refine wC (bw) bl (fun bf => ?_) (fun bf => ?_)
  ·
   rw [bf, cond_true] at H
   refine wp_seq (wp_region_from (Rk 0 1 [(tB 6 false)] bl bt fun gj dz => ?_))
   refine wf (wp_ret ?_)
   obtain rfl := Option.some.inj H
   exact rt (.one (.c (.bool false))) dz bt rfl
  ·
   rw [bf, cond_false] at H
   refine wp_skip (wp_seq (wp_region_from (wl fun K hK => ?_)))
   refine wa K47c6 bl bt fun f cm fj (d0 : Kn 78 [(a, 0), (f, 0)] [(tP 7 1 0), (tP 3 0 0), (tS 1 a_plan plan.length c_plan), (tI 2 most), (tB 23 bw)] cm) (bu : Mem ⟨w, h, noX⟩ ag [(a, 0), (f, 0)] [⟨(K47c4 g s i b d), some 79⟩, ⟨K47c6, some 123⟩] [] fj) => hK _ _ ?_
   have d1 : Kn 78 [(a, 0), (f, 0)] ((tP 7 1 0) :: (K47m14 a_plan plan c_plan most)) cm := d0.kp
   refine wf (wp_seq (wp_region_from (Rk 0 1 ((tI 8 0) :: (tP 7 1 0) :: (K47m14 a_plan plan c_plan most)) d1 bu fun gk d2 => ?_)))
   refine wf (wp_seq (wp_seq (wp_region_from (Rk 0 3 [(tI 26 0), (tI 25 ((plan.length : Nat) : Int)), (tS 24 a_plan plan.length c_plan), (tI 8 0), (tP 7 1 0), (tP 3 0 0), (tI 2 most)] d2 bu fun gl d3 => ?_))))
   refine wf ?_
   obtain ⟨ci, b6, H⟩ := bnd H
   refine wp_mid' (fun a' w' => ∃ (e : Int × Hours) (b3 : Array Value) (ah : Heap), a' = ⟨b3, []⟩ ∧ Kn 78 [(a, 0), (f, 0)] [(tI 8 e.1), (tP 7 1 0), (tP 3 0 0), (tI 2 most)] b3 ∧ Mem ⟨w, h, noX⟩ ah [(a, 0), (f, 0)] [⟨(K47c4 g s i b d), some 79⟩, ⟨(K47c10 e), some 123⟩] [] w' ∧ Heap.le ag ah ∧ ci = .go e) ?_ ?_
   ·
    refine wp_block ?_
    refine wp_loop_n (fun e3 a' w' => ∃ (x_v10 : Int) (x_v11 : Int) (x_v12 : Hours) (b4 : Array Value) (ap : Heap), a' = ⟨b4, []⟩ ∧ Kn 78 [(a, 0), (f, 0)] (K47m11 x_v10 plan a_plan c_plan x_v11 most) b4 ∧ Mem ⟨w, h, noX⟩ ap [(a, 0), (f, 0)] [⟨(K47c4 g s i b d), some 79⟩, ⟨(K47c7 x_v12), some 123⟩] [] w' ∧ Heap.le ag ap ∧ pit_ProvePlan_l1 e3 s plan x_v10 x_v11 x_v12 = some ci) n ?_ ?_
    ·
     exact Exists.intro 0 ⟨0, (Hours.mk 0 0 0 0 0 0 0 0 0 0 0 0 0 0), _, _, rfl, d3.kp, bu, (Heap.le_refl _), b6⟩
    ·
     rintro am _ fk ⟨x_v10, x_v11, x_v12, b4, ap, rfl, d4, aw, aj, m⟩
     clear b6
     obtain _ | am := am
     ·
      rw [pit_ProvePlan_l1] at m; cases m
     rw [pit_ProvePlan_l1] at m
     replace z := z.mono aj
     replace u := u.mono aj
     replace hr_plan := hr_plan.mono aj
     refine wp_seq (wp_region_from (Rk 0 1 ((tB 27 (decide (x_v10 < ((plan.length : Nat) : Int)))) :: (K47m11 x_v10 plan a_plan c_plan x_v11 most)) d4 aw fun gm bm => ?_))
     refine wf (wp_seq (wC (decide (x_v10 < ((plan.length : Nat) : Int))) bm (fun bg => ?_) (fun bg => ?_)))
     ·
      rw [bg, cond_true] at m
      refine wp_skip (wp_seq (wp_block (wp_seq (wp_region_from (Rk 0 1 ((tI 28 x_v10) :: (K47m11 x_v10 plan a_plan c_plan x_v11 most)) bm aw fun gn d5 => ?_)))))
      obtain ⟨x29, ex29, m⟩ := bnd m
      obtain ⟨ei, ep, e1⟩ := idx_some ex29
      obtain ⟨k, l, fq, cv, eu, cz⟩ := hr_plan.get (by decide) e1
      obtain rfl := eu
      have ax : Mem ⟨w, h, noX⟩ ap (K47e3 a f k l x_v10) [⟨(K47c4 g s i b d), some 79⟩, ⟨(K47c7 x_v12), some 123⟩, ⟨[.int .i64 x29], none⟩] [] fk := aw.addPlc (cs := [.int .i64 x29]) (fun j c hj => cz j _ (map_get hj)) rfl (by kernel_rfl) (by kernel_rfl)
      refine R_index 1 (x_v10) rfl rfl (rfl) rfl (by decide) d5 (by rfl) (by rfl) (by rfl) cv (by rfl) ei ep (by kernel_rfl) fun fe (d6 : Kn 78 (K47e3 a f k l x_v10) ((tP 29 2 0) :: (tI 28 x_v10) :: (K47m11 x_v10 plan a_plan c_plan x_v11 most)) fe) => ?_
      refine Rk 2 3 (K47m15 x29 x_v10 plan a_plan c_plan x_v11 most) d6 ax fun gp d7 => ?_
      refine wf (wp_seq (wp_seq (wp_region_from (Rk 0 4 ((tI 34 (IntKind.i64.wrap (s.days - 1))) :: (tI 31 x29) :: (K47m15 x29 x_v10 plan a_plan c_plan x_v11 most)) d7 ax fun gq d8 => ?_))))
      obtain ⟨x35, ex35, m⟩ := bnd m
      refine wl fun K hK => ?_
      refine wc [.c (.int .i64 x29), .c (.int .i64 (-1)), .c (.int .i64 (IntKind.i64.wrap (s.days - 1)))] d8 ax (pit_within_ok am ax.has x29 (-1) (IntKind.i64.wrap (s.days - 1)) ex35) fun gv bb fm cq aq aa => ?_
      replace z := z.mono aq
      replace u := u.mono aq
      replace hr_plan := hr_plan.mono aq
      obtain rfl := cq
      refine ⟨.one (.c (.bool x35)), rfl, fun ff (d9 : Kn 78 (K47e3 a f k l x_v10) ((tB 35 x35) :: (tI 34 (IntKind.i64.wrap (s.days - 1))) :: (tI 31 x29) :: (K47m15 x29 x_v10 plan a_plan c_plan x_v11 most)) ff) => hK _ _ ?_⟩
      refine Rk 5 1 ((tB 36 (!x35)) :: (K47m15 x29 x_v10 plan a_plan c_plan x_v11 most)) d9 aa fun gr bn => ?_
      refine wf (wC ((!x35)) bn (fun bh => ?_) (fun bh => ?_))
      ·
       rw [bh, cond_true] at m
       refine wp_seq (wp_region_from (Rk 0 1 [(tB 6 false)] bn aa fun fw c1 => ?_))
       refine wf (wp_ret ?_)
       obtain rfl := Option.some.inj m
       obtain rfl := Option.some.inj H
       exact rt (.one (.c (.bool false))) c1 aa rfl
      ·
       rw [bh, cond_false] at m
       refine wp_skip (wp_seq (wp_seq (wp_region_from (Rk 0 2 ((tB 38 (x29 != (-1))) :: (K47m15 x29 x_v10 plan a_plan c_plan x_v11 most)) bn aa fun fx bi => ?_))))
       refine wf ?_
       obtain ⟨o, x, m⟩ := bnd m
       refine wp_mid' (fun a' w' => ∃ (bz : Array Value) (af : Heap), a' = ⟨bz, []⟩ ∧ Kn 78 (K47e3 a f k l x_v10) (K47m15 x29 x_v10 plan a_plan c_plan x_v11 most) bz ∧ Mem ⟨w, h, noX⟩ af (K47e3 a f k l x_v10) [⟨(K47c4 g s i b d), some 79⟩, ⟨(K47c8 o), some 123⟩, ⟨[.int .i64 x29], none⟩] [] w' ∧ Heap.le bb af) ?_ ?_
       ·
        refine wC ((x29 != (-1))) bi (fun bc => ?_) (fun bc => ?_)
        ·
         rw [bc, cond_true] at x
         refine wp_region_G (by kernel_rfl) ?_
         replace aa := aa.drew
         refine wpG_of_D [] (K47e3 a f k l x_v10) [⟨(K47c4 g s i b d), some 79⟩, ⟨(K47c7 x_v12), some 123⟩, ⟨[.int .i64 x29], none⟩] ?_
         refine Dr [0] [0] ((tI 39 x29) :: (K47m15 x29 x_v10 plan a_plan c_plan x_v11 most)) bi aa fun fy b7 => ?_
         obtain ⟨x40, ex40, x⟩ := bnd x
         obtain ⟨ec, ej⟩ := rng_some ex40
         refine D_one 1 (.one (.c (.ptr 1 (0 + (x29 : Int).toNat * 1)))) (fun _ _ _ _ _ h => h) rfl (by kernel_rfl) (by kernel_rfl) (rfl) rfl aa.plOk (fun _ h => h) (fun w => run_indexA (E := 3) b7 rfl (by kernel_rfl) (by kernel_rfl) (by rfl) (by rfl) ec ej) (b7.put (by decide) _) fun e4 (b8 : Kn 78 (K47e3 a f k l x_v10) ((tP 40 1 (0 + (x29 : Int).toNat * 1)) :: (tI 39 x29) :: (K47m15 x29 x_v10 plan a_plan c_plan x_v11 most)) e4) => ?_
         obtain ⟨x41, ex41, x⟩ := bnd x
         obtain ⟨_, _, ev⟩ := idx_some ex41
         refine D_oneP 2 (.one (.c (.int .i64 x41))) (fun _ _ _ _ _ h => h) rfl (by kernel_rfl) (by kernel_rfl) (by kernel_rfl) (rfl) rfl aa.plOk (fun w hw => run_loadAt1 b8 hw rfl (by rfl) rfl (by kernel_rfl) (arr_get (fun (y : Int) => ([.int .i64 y] : List SC)) 1 (fun _ => rfl) [] [] x_v12.toL _ _ ev rfl rfl)) (b8.put (by decide) _) fun e5 (c2 : Kn 78 (K47e3 a f k l x_v10) ((tI 41 x41) :: (tP 40 1 (0 + (x29 : Int).toNat * 1)) :: (tI 39 x29) :: (K47m15 x29 x_v10 plan a_plan c_plan x_v11 most)) e5) => ?_
         refine Dr [3, 4, 5] (dn 5) ((tI 44 x_v10) :: (tS 43 g s.buses.length i) :: (tI 41 x41) :: (tI 39 x29) :: (K47m15 x29 x_v10 plan a_plan c_plan x_v11 most)) c2 aa fun fz c3 => ?_
         obtain ⟨x45, ex45, x⟩ := bnd x
         obtain ⟨ed, ek, ew⟩ := idx_some ex45
         obtain ⟨ac, ad, fn, cr, er, cw⟩ := z.get (by decide) ew
         obtain ⟨_, _, rfl, rfl, ⟨_, _, rfl, rfl, rfl⟩⟩ := er
         have br : Mem ⟨w, h, noX⟩ bb (K47e5 a f k l x_v10 ac ad) [⟨(K47c4 g s i b d), some 79⟩, ⟨(K47c7 x_v12), some 123⟩, ⟨[.int .i64 x29], none⟩, ⟨(K47c1 x45), none⟩] [] (World.drew fm) := aa.addPlc (cs := (K47c1 x45)) (fun j c hj => cw j _ (map_get hj)) rfl (by kernel_rfl) (by kernel_rfl)
         refine D_index 6 (x_v10) (K47c1 x45) (fun _ _ _ _ _ h => h) rfl rfl (rfl) rfl (by decide) (by kernel_rfl) (by kernel_rfl) c3 aa.plOk (by rfl) (by rfl) (by rfl) cr (by rfl) ed ek (by kernel_rfl) fun e6 (c5 : Kn 78 (K47e5 a f k l x_v10 ac ad) ((tP 45 3 0) :: (tI 44 x_v10) :: (tS 43 g s.buses.length i) :: (tI 41 x41) :: (tI 39 x29) :: (K47m15 x29 x_v10 plan a_plan c_plan x_v11 most)) e6) => ?_
         refine Dr [7, 8, 9] (dn 9) ((tI 48 (IntKind.i64.wrap (x41 + x45.work))) :: (tI 39 x29) :: (K47m15 x29 x_v10 plan a_plan c_plan x_v11 most)) c5 br fun f1 b9 => ?_
         obtain ⟨x49, ex49, x⟩ := bnd x
         obtain ⟨ee, el⟩ := rng_some ex49
         refine D_one 10 (.one (.c (.ptr 1 (0 + (x29 : Int).toNat * 1)))) (fun _ _ _ _ _ h => h) rfl (by kernel_rfl) (by kernel_rfl) (rfl) rfl br.plOk (fun _ h => h) (fun w => run_indexA (E := 3) b9 rfl (by kernel_rfl) (by kernel_rfl) (by rfl) (by rfl) ee el) (b9.put (by decide) _) fun ck (c6 : Kn 78 (K47e5 a f k l x_v10 ac ad) ((tP 49 1 (0 + (x29 : Int).toNat * 1)) :: (tI 48 (IntKind.i64.wrap (x41 + x45.work))) :: (tI 39 x29) :: (K47m15 x29 x_v10 plan a_plan c_plan x_v11 most)) ck) => ?_
         obtain ⟨p, cn, x⟩ := bnd x
         obtain ⟨fu, fv, ex⟩ := Hours.setI_some cn
         refine D_sync 11 rfl (by kernel_rfl) (by decide) (rfl) (by kernel_rfl) fun K hK => ?_
         refine wp_store 1 (0 + (x29 : Int).toNat * 1) (.c (.int .i64 (IntKind.i64.wrap (x41 + x45.work)))) (K47c9 p) c6 br rfl rfl (by rfl) (by rfl) (by rfl) (by kernel_rfl) (by refine decide_eq_true ?_; show (0 + (x29 : Int).toNat * 1) + 1 ≤ 14; omega) (arr_set (fun (y : Int) => ([.int .i64 y] : List SC)) 1 (fun _ => rfl) [] [] x_v12.toL p.toL (x29 : Int).toNat (IntKind.i64.wrap (x41 + x45.work)) ex (show (x29 : Int).toNat < 14 by omega) rfl rfl rfl) fun fg c7 (eb : Mem ⟨w, h, noX⟩ bb (K47e5 a f k l x_v10 ac ad) [⟨(K47c4 g s i b d), some 79⟩, ⟨(K47c9 p), some 123⟩, ⟨[.int .i64 x29], none⟩, ⟨(K47c1 x45), none⟩] [] fg) => hK _ _ ?_
         have c8 : Kn 78 (K47e5 a f k l x_v10 ac ad) (K47m15 x29 x_v10 plan a_plan c_plan x_v11 most) ck := c7.kp
         refine wpG_end (by kernel_rfl) ?_
         obtain rfl := Option.some.inj x
         exact Exists.intro _ ⟨_, rfl, ((c8.keep [10, 9, 26, 25, 24, 8, 7, 3, 2] (by rfl)).cut 3 (by kernel_rfl)), (eb.cutPl 3 (by kernel_rfl)), (Heap.le_refl _)⟩
        ·
         rw [bc, cond_false] at x
         refine wp_skip ?_
         obtain rfl := Option.some.inj x
         exact Exists.intro _ ⟨_, rfl, bi.kp, aa, (Heap.le_refl _)⟩
       ·
        rintro _ fh ⟨bz, af, rfl, c9, ak, bo⟩
        replace z := z.mono bo
        replace u := u.mono bo
        refine wp_region_G (by kernel_rfl) ?_
        replace ak := ak.drew
        refine wpG_of_D [] (K47e3 a f k l x_v10) [⟨(K47c4 g s i b d), some 79⟩, ⟨(K47c8 o), some 123⟩, ⟨[.int .i64 x29], none⟩] ?_
        refine Dr [0, 1, 2, 3, 4] (dn 4) ((tI 54 x_v10) :: (tS 53 g s.buses.length i) :: (tA 51 (K47c4 g s i b d)) :: (tI 50 x_v11) :: (tI 10 x29) :: (tI 26 x_v10) :: (K47m13 plan a_plan c_plan most)) c9 ak fun f2 da => ?_
        obtain ⟨x55, ex55, m⟩ := bnd m
        obtain ⟨ef, em, ey⟩ := idx_some ex55
        obtain ⟨az, bx, fo, ct, es, cx⟩ := z.get (by decide) ey
        obtain ⟨_, _, rfl, rfl, ⟨_, _, rfl, rfl, rfl⟩⟩ := es
        have bs : Mem ⟨w, h, noX⟩ af [(a, 0), (f, 0), (k, l + (x_v10 : Int).toNat * 1), (az, bx + (x_v10 : Int).toNat * 3)] [⟨(K47c4 g s i b d), some 79⟩, ⟨(K47c8 o), some 123⟩, ⟨[.int .i64 x29], none⟩, ⟨(K47c2 x55), none⟩] [] (World.drew fh) := ak.addPlc (cs := (K47c2 x55)) (fun j c hj => cx j _ (map_get hj)) rfl (by kernel_rfl) (by kernel_rfl)
        refine D_index 5 (x_v10) (K47c2 x55) (fun _ _ _ _ _ h => h) rfl rfl (rfl) rfl (by decide) (by kernel_rfl) (by kernel_rfl) da ak.plOk (by rfl) (by rfl) (by rfl) ct (by rfl) ef em (by kernel_rfl) fun e7 (db : Kn 78 [(a, 0), (f, 0), (k, l + (x_v10 : Int).toNat * 1), (az, bx + (x_v10 : Int).toNat * 3)] ((tP 55 3 0) :: (tI 54 x_v10) :: (tS 53 g s.buses.length i) :: (tA 51 (K47c4 g s i b d)) :: (tI 50 x_v11) :: (tI 10 x29) :: (tI 26 x_v10) :: (K47m13 plan a_plan c_plan most)) e7) => ?_
        refine Dr [6, 7] (dn 7) ((tI 57 x29) :: (tA 56 (K47c2 x55)) :: (tA 51 (K47c4 g s i b d)) :: (tI 50 x_v11) :: (tI 26 x_v10) :: (K47m13 plan a_plan c_plan most)) db bs fun f3 dc => ?_
        obtain ⟨x58, ex58, m⟩ := bnd m
        refine Dl 8 fun K hK => ?_
        refine wc [.agg (K47c4 g s i b d), .agg (K47c2 x55), .c (.int .i64 x29)] dc bs (pit_Shop_cost_ok am bs.has s ((rep_pair (rep_slice z) (rep_pair rep_int (rep_slice u))) : rep af s _) x55 ((rep_pair rep_int (rep_pair rep_int rep_int)) : rep af x55 _) x29 ex58) fun gs fr gw co ea au => ?_
        obtain rfl := co
        refine ⟨.one (.c (.int .i64 x58)), rfl, fun e8 (dd : Kn 78 [(a, 0), (f, 0), (k, l + (x_v10 : Int).toNat * 1), (az, bx + (x_v10 : Int).toNat * 3)] ((tI 58 x58) :: (tI 57 x29) :: (tA 56 (K47c2 x55)) :: (tA 51 (K47c4 g s i b d)) :: (tI 50 x_v11) :: (tI 26 x_v10) :: (K47m13 plan a_plan c_plan most)) e8) => hK _ _ au.plOk ?_⟩
        refine Dr [9, 10] (dn 10) ((tI 8 (IntKind.i64.wrap (x_v11 + x58))) :: (tI 26 x_v10) :: (K47m13 plan a_plan c_plan most)) dd au fun f5 de => ?_
        refine wpD_end (by kernel_rfl) (wp_region_from (Rk 0 2 ((tI 26 (IntKind.i64.wrap (x_v10 + 1))) :: (tI 8 (IntKind.i64.wrap (x_v11 + x58))) :: (K47m13 plan a_plan c_plan most)) de au fun f6 df => ?_))
        refine wf ?_
        exact Exists.intro am ⟨Nat.lt_succ_self _, Exists.intro (IntKind.i64.wrap (x_v10 + 1)) ⟨(IntKind.i64.wrap (x_v11 + x58)), o, _, _, rfl, ((df.keep [26, 25, 24, 8, 7, 3, 2] (by rfl)).cut 2 (by kernel_rfl)), (au.cutPl 2 (by kernel_rfl)), (Heap.le_trans aj (Heap.le_trans aq (Heap.le_trans bo ea))), m⟩⟩
     ·
      rw [bg, cond_false] at m
      refine wp_exit ?_
      obtain rfl := Option.some.inj m
      exact Exists.intro (x_v11, x_v12) ⟨_, _, rfl, bm.kp, aw, aj, rfl⟩
   ·
    rintro _ gx ⟨e, b3, ah, rfl, dg, cf, cd, rfl⟩
    rw [Ex.bind_go] at H
    replace z := z.mono cd
    replace u := u.mono cd
    refine wp_seq (wp_seq (wp_region_from (Rk 0 4 ((tI 64 0) :: (K47m12 s b d e most)) dg cf fun f7 di => ?_)))
    refine wf ?_
    obtain ⟨ch, b5, H⟩ := bnd H
    refine wp_mid' (fun a' w' => ∃ (cj : Unit) (b1 : Array Value) (ba : Heap), a' = ⟨b1, []⟩ ∧ Kn 78 [(a, 0), (f, 0)] [(tI 8 e.1), (tI 2 most)] b1 ∧ Mem ⟨w, h, noX⟩ ba [(a, 0), (f, 0)] [⟨(K47c4 g s i b d), some 79⟩, ⟨(K47c10 e), some 123⟩] [] w' ∧ Heap.le ah ba ∧ ch = .go cj) ?_ ?_
    ·
     refine wp_block ?_
     refine wp_loop_n (fun e2 a' w' => ∃ (x_v20 : Int) (b2 : Array Value) (ao : Heap), a' = ⟨b2, []⟩ ∧ Kn 78 [(a, 0), (f, 0)] ((tI 64 x_v20) :: (K47m12 s b d e most)) b2 ∧ Mem ⟨w, h, noX⟩ ao [(a, 0), (f, 0)] [⟨(K47c4 g s i b d), some 79⟩, ⟨(K47c10 e), some 123⟩] [] w' ∧ Heap.le ah ao ∧ pit_ProvePlan_l2 e2 s e x_v20 = some ch) n ?_ ?_
     ·
      exact Exists.intro 0 ⟨_, _, rfl, di.kp, cf, (Heap.le_refl _), b5⟩
     ·
      rintro bv _ fi ⟨x_v20, b2, ao, rfl, dj, av, bp, q⟩
      clear b5
      obtain _ | bv := bv
      ·
       rw [pit_ProvePlan_l2] at q; cases q
      rw [pit_ProvePlan_l2] at q
      replace u := u.mono bp
      refine wp_seq (wp_region_from (Rk 0 1 ((tB 65 (decide (x_v20 < ((s.pits.length : Nat) : Int)))) :: (tI 64 x_v20) :: (K47m12 s b d e most)) dj av fun f8 bj => ?_))
      refine wf (wp_seq (wC (decide (x_v20 < ((s.pits.length : Nat) : Int))) bj (fun bd => ?_) (fun bd => ?_)))
      ·
       rw [bd, cond_true] at q
       refine wp_skip (wp_seq (wp_block (wp_seq (wp_region_from (Rk 0 1 ((tI 66 x_v20) :: (tI 64 x_v20) :: (K47m12 s b d e most)) bj av fun f9 dk => ?_)))))
       obtain ⟨x67, ex67, q⟩ := bnd q
       obtain ⟨eg, en, ez⟩ := idx_some ex67
       obtain ⟨an, ay, fp, cu, et, cy⟩ := u.get (by decide) ez
       obtain rfl := et
       have ab : Mem ⟨w, h, noX⟩ ao [(a, 0), (f, 0), (an, ay + (x_v20 : Int).toNat * 1)] [⟨(K47c4 g s i b d), some 79⟩, ⟨(K47c10 e), some 123⟩, ⟨[.int .i64 x67], none⟩] [] fi := av.addPlc (cs := [.int .i64 x67]) (fun j c hj => cy j _ (map_get hj)) rfl (by kernel_rfl) (by kernel_rfl)
       refine R_index 1 (x_v20) rfl rfl (rfl) rfl (by decide) dk (by rfl) (by rfl) (by rfl) cu (by rfl) eg en (by kernel_rfl) fun e9 (dl : Kn 78 [(a, 0), (f, 0), (an, ay + (x_v20 : Int).toNat * 1)] ((tP 67 2 0) :: (tI 66 x_v20) :: (tI 64 x_v20) :: (K47m12 s b d e most)) e9) => ?_
       refine Rk 2 3 ((tI 12 x67) :: (tI 11 x_v20) :: (tI 64 x_v20) :: (K47m12 s b d e most)) dl ab fun ga dm => ?_
       refine wf (wp_seq (wp_region_from (Rk 0 1 ((tI 69 x_v20) :: (tI 12 x67) :: (tI 64 x_v20) :: (K47m12 s b d e most)) dm ab fun gb ca => ?_)))
       obtain ⟨x70, ex70, q⟩ := bnd q
       obtain ⟨eh, eo⟩ := rng_some ex70
       refine R_one 1 (.one (.c (.ptr 1 (0 + (x_v20 : Int).toNat * 1)))) rfl (rfl) rfl (run_indexA (E := 3) ca rfl (by kernel_rfl) (by kernel_rfl) (by rfl) (by rfl) eh eo) (ca.put (by decide) _) fun fa (cb : Kn 78 [(a, 0), (f, 0), (an, ay + (x_v20 : Int).toNat * 1)] ((tP 70 1 (0 + (x_v20 : Int).toNat * 1)) :: (tI 69 x_v20) :: (tI 12 x67) :: (tI 64 x_v20) :: (K47m12 s b d e most)) fa) => ?_
       obtain ⟨x71, ex71, q⟩ := bnd q
       obtain ⟨_, _, e0⟩ := idx_some ex71
       refine R_one 2 (.one (.c (.int .i64 x71))) rfl (rfl) rfl (run_loadAt1 cb ab.plOk rfl (by rfl) rfl (by kernel_rfl) (arr_get (fun (y : Int) => ([.int .i64 y] : List SC)) 1 (fun _ => rfl) [] [] e.2.toL _ _ e0 rfl rfl)) (cb.put (by decide) _) fun fb (dp : Kn 78 [(a, 0), (f, 0), (an, ay + (x_v20 : Int).toNat * 1)] ((tI 71 x71) :: (tP 70 1 (0 + (x_v20 : Int).toNat * 1)) :: (tI 69 x_v20) :: (tI 12 x67) :: (tI 64 x_v20) :: (K47m12 s b d e most)) fb) => ?_
       refine Rk 3 2 ((tB 73 (decide (x71 > x67))) :: (tI 64 x_v20) :: (K47m12 s b d e most)) dp ab fun gc bk => ?_
       refine wf (wC (decide (x71 > x67)) bk (fun be => ?_) (fun be => ?_))
       ·
        rw [be, cond_true] at q
        refine wp_seq (wp_region_from (Rk 0 1 [(tB 6 false)] bk ab fun gd dq => ?_))
        refine wf (wp_ret ?_)
        obtain rfl := Option.some.inj q
        obtain rfl := Option.some.inj H
        exact rt (.one (.c (.bool false))) dq ab rfl
       ·
        rw [be, cond_false] at q
        refine wp_skip (wp_region_from (Rk 0 2 ((tI 64 (IntKind.i64.wrap (x_v20 + 1))) :: (K47m12 s b d e most)) bk ab fun gf dr => ?_))
        refine wf ?_
        exact Exists.intro bv ⟨Nat.lt_succ_self _, Exists.intro (IntKind.i64.wrap (x_v20 + 1)) ⟨_, _, rfl, ((dr.keep [64, 63, 62, 8, 7, 2] (by rfl)).cut 2 (by kernel_rfl)), (ab.cutPl 2 (by kernel_rfl)), bp, q⟩⟩
      ·
       rw [bd, cond_false] at q
       refine wp_exit ?_
       obtain rfl := Option.some.inj q
       exact Exists.intro () ⟨_, _, rfl, bj.kp, av, bp, rfl⟩
    ·
     rintro _ gz ⟨cj, b1, ba, rfl, ds, cg, ft, rfl⟩
     rw [Ex.bind_go] at H
     refine wp_seq (wp_region_from (Rk 0 4 [(tB 6 (decide (e.1 ≤ most)))] ds cg fun gg dt => ?_))
     refine wf (wp_ret ?_)
     obtain rfl := Option.some.inj H
     exact rt (.one (.c (.bool (decide (e.1 ≤ most))))) dt cg rfl
end Go.Proofs.Ytkbphdjemgibnaa
