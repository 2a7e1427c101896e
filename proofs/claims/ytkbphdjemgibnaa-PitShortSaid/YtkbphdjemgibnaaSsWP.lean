/- Each call computes its plain function. -/
import Derived.Test.YtkbphdjemgibnaaProg
import Derived.Test.YtkbphdjemgibnaaSsP0
set_option linter.all false
namespace Go.Proofs.Ytkbphdjemgibnaa
open Go Go.RowKit
open Rep (rep)
open KRep (kv)
open VRep (rv)
abbrev K69xc1 : List SC := [.int .i64 0, .int .i64 0, .int .i64 0, .int .u8 0, .int .i64 0, .int .i64 0]
abbrev K69xc2 (x11 : (Card × Bool)) : List SC := [.int .i64 x11.1.bus, .int .i64 x11.1.number, .int .i64 x11.1.minute, .int .u8 x11.1.kind.n, .int .i64 x11.1.part, .int .i64 x11.1.sg]
set_option maxRecDepth 100000 in
set_option maxHeartbeats 4000000 in
theorem pit_cards_card_x (n : Nat) {h : Heap} {w : World} (hh : Has h w) (m : IMap Int Card) {bm_m : Nat} {es_m : Array MapEntry} {cl_m : Nat} (hM_m : w.heap[bm_m]? = some (.map es_m cl_m)) (hE_m : Ents h es_m.toList cl_m m.l) (n_ : Int) {r : Card × Bool} (H : pit_cards_card n m n_ = some r) :
  Calls Try.prog 69 #[.map (some bm_m), .int .i64 n_] w (Ret (fun h v => ∃ v0 v1, v = .tuple #[v0, v1] ∧ (∃ cs, v0 = .agg cs.toArray ∧ rep h r.1 cs) ∧ (v1 = .bool r.2)) h w) := by
 refine enter 16 [.c (.map (some bm_m)), .c (.int .i64 n_)] Try.func69 rfl rfl rfl rfl fun t hk => ?_
 have hm := Mem.begin h w hh
 unfold pit_cards_card at H
 refine wp_seq (wp_region_from (wl fun K hK => ?_))
 refine wa K69xc1 hk hm fun a ae ai (y : Kn 16 [(a, 0)] [(tP 4 0 0), (0, .one (.c (.map (some bm_m)))), (tI 1 n_)] ae) (b : Mem ⟨w, h, noX⟩ h [(a, 0)] [⟨K69xc1, some 99⟩] [] ai) => hK _ _ ?_
 refine Rk 1 1 [(tP 4 0 0), (0, .one (.c (.map (some bm_m)))), (tI 1 n_)] y b fun an z => ?_
 refine wf (wp_seq (wp_region_from (Rk 0 2 [(tI 10 n_), (9, .one (.c (.map (some bm_m)))), (tP 4 0 0)] z b fun ao aa => ?_)))
 obtain ⟨x11, ex11, H⟩ := bnd H
 refine wl fun K hK => ?_
 refine wp_lookup (KT := 3) (E := 99) (k := (n_ : Int)) ((Card.mk 0 0 0 (IK.mk 0) 0 0) : Card) (.c (.int .i64 n_)) aa rfl rfl (by decide) (by rfl) (by rfl) (by kernel_rfl) (KL.int (by kernel_rfl)) (b.oldAt hM_m) hE_m rfl (by kernel_rfl) ⟨_, rfl, ((rep_pair rep_int (rep_pair rep_int (rep_pair rep_int (rep_pair rep_ik (rep_pair rep_int rep_int))))) : rep h ((Card.mk 0 0 0 (IK.mk 0) 0 0) : Card) _)⟩ fun ap g => ?_
 rw [Option.some.inj ex11] at g ⊢
 obtain ⟨_, rfl, ⟨_, _, rfl, rfl, ⟨_, _, rfl, rfl, ⟨_, _, rfl, rfl, ⟨_, _, rfl, rfl, ⟨_, _, rfl, rfl, rfl⟩⟩⟩⟩⟩⟩ := g
 refine ⟨.tup [.agg (K69xc2 x11), .c (.bool x11.2)], rfl, fun ac (i : Kn 16 [(a, 0)] [(11, .tup [.agg (K69xc2 x11), .c (.bool x11.2)]), (tI 10 n_), (9, .one (.c (.map (some bm_m)))), (tP 4 0 0)] ac) => hK _ _ ?_⟩
 refine Rk 3 3 [(tB 13 x11.2), (tA 12 (K69xc2 x11)), (tP 4 0 0)] i b fun aj j => ?_
 refine wl fun K hK => ?_
 refine wa K69xc1 j b fun d ad af (o : Kn 16 [(a, 0), (d, 0)] [(tP 6 1 0), (tB 13 x11.2), (tA 12 (K69xc2 x11)), (tP 4 0 0)] ad) (ab : Mem ⟨w, h, noX⟩ h [(a, 0), (d, 0)] [⟨K69xc1, some 99⟩, ⟨K69xc1, some 99⟩] [] af) => hK _ _ ?_
 refine wl fun K hK => ?_
 refine wst 1 0 (.agg (K69xc2 x11)) (K69xc2 x11) o ab fun ag p (e : Mem ⟨w, h, noX⟩ h [(a, 0), (d, 0)] [⟨K69xc1, some 99⟩, ⟨(K69xc2 x11), some 99⟩] [] ag) => hK _ _ ?_
 refine Rk 8 1 [(tB 7 x11.2), (tP 6 1 0), (tP 4 0 0)] p e fun ak q => ?_
 refine wf (wp_seq (wp_region_from (Rk 0 2 [(tB 15 x11.2), (tA 14 (K69xc2 x11)), (tP 4 0 0)] q e fun al s => ?_)))
 refine wl fun K hK => ?_
 refine wst 0 0 (.agg (K69xc2 x11)) (K69xc2 x11) s e fun ah u (f : Mem ⟨w, h, noX⟩ h [(a, 0), (d, 0)] [⟨(K69xc2 x11), some 99⟩, ⟨(K69xc2 x11), some 99⟩] [] ah) => hK _ _ ?_
 refine Rk 3 1 [(tB 5 x11.2), (tP 4 0 0)] u f fun am x => ?_
 refine wf (wp_ret ?_)
 obtain rfl := Option.some.inj H
 exact rt (.tup [.agg (K69xc2 x11), .c (.bool x11.2)]) x f ⟨_, _, rfl, ⟨_, rfl, ((rep_pair rep_int (rep_pair rep_int (rep_pair rep_int (rep_pair rep_ik (rep_pair rep_int rep_int))))) : rep h (x11.1 : Card) _)⟩, rfl⟩
abbrev K114c1 (x14 : Card) : List SC := [.int .i64 x14.bus, .int .i64 x14.number, .int .i64 x14.minute, .int .u8 x14.kind.n, .int .i64 x14.part, .int .i64 x14.sg]
abbrev K114m2 (s : List Card) (a_s : Option Addr) (c_s : Nat) (fn_f : Fn) (fa_f fc_f : Array Value) : TM := [(tI 7 ((s.length : Nat) : Int)), (tS 0 a_s s.length c_s), (1, .one (.c (.func fn_f fa_f fc_f)))]
set_option maxRecDepth 100000 in
set_option maxHeartbeats 4000000 in
theorem slices_IndexFunc_pit_Card_pit_Card_ok (n : Nat) {h : Heap} {w : World} (hh : Has h w) (s : List Card) {a_s : Option Addr} {c_s : Nat} (hr_s : RepS h a_s c_s s) (f : Card → Option Bool) {fn_f : Fn} {fa_f fc_f : Array Value} (hf_f : Fn1 h (.func fn_f fa_f fc_f) f) {r : Int} (H : slices_IndexFunc_pit_Card_pit_Card n s f = some r) :
  Calls Try.prog 114 #[.slice a_s s.length c_s, .func fn_f fa_f fc_f] w (Ret (fun h v => v = .int .i64 r) h w) := by
 refine enter 19 [.c (.slice a_s s.length c_s), .c (.func fn_f fa_f fc_f)] Try.func114 rfl rfl rfl rfl fun t hk => ?_
 have hm := Mem.begin h w hh
 unfold slices_IndexFunc_pit_Card_pit_Card at H
 refine wp_seq (wp_region_from (Rk 0 1 [(tS 0 a_s s.length c_s), (1, .one (.c (.func fn_f fa_f fc_f)))] hk hm fun a7 aj => ?_))
 refine wf (wp_seq (wp_seq (wp_region_from (Rk 0 3 ((tI 8 0) :: (K114m2 s a_s c_s fn_f fa_f fc_f)) aj hm fun bb an => ?_))))
 refine wf ?_
 obtain ⟨ac, aa, H⟩ := bnd H
 refine wp_mid' (fun a' w' => ∃ (ad : Unit) (z : Array Value) (l : Heap), a' = ⟨z, []⟩ ∧ Kn 19 [] [] z ∧ Mem ⟨w, h, noX⟩ l [] [] [] w' ∧ Heap.le h l ∧ ac = .go ad) ?_ ?_
 ·
  refine wp_block ?_
  refine wp_loop_n (fun a1 a' w' => ∃ (x_v10 : Int) (y : Array Value) (b : Heap), a' = ⟨y, []⟩ ∧ Kn 19 [] ((tI 8 x_v10) :: (K114m2 s a_s c_s fn_f fa_f fc_f)) y ∧ Mem ⟨w, h, noX⟩ b [] [] [] w' ∧ Heap.le h b ∧ slices_IndexFunc_pit_Card_pit_Card_l1 a1 s f x_v10 = some ac) n ?_ ?_
  ·
   exact Exists.intro 0 ⟨_, _, rfl, an.kp, hm, (Heap.le_refl _), aa⟩
  ·
   rintro x _ a3 ⟨x_v10, y, b, rfl, ai, d, g, a⟩
   clear aa
   obtain _ | x := x
   ·
    rw [slices_IndexFunc_pit_Card_pit_Card_l1] at a; cases a
   rw [slices_IndexFunc_pit_Card_pit_Card_l1] at a
   replace hr_s := hr_s.mono g
   replace hf_f := hf_f.mono g
   refine wp_seq (wp_region_from (Rk 0 1 ((tB 9 (decide (x_v10 < ((s.length : Nat) : Int)))) :: (tI 8 x_v10) :: (K114m2 s a_s c_s fn_f fa_f fc_f)) ai d fun a8 p => ?_))
   refine wf (wp_seq (wC (decide (x_v10 < ((s.length : Nat) : Int))) p (fun m => ?_) (fun m => ?_)))
   ·
    rw [m, cond_true] at a
    refine wp_skip (wp_seq (wp_block (wp_seq (wp_region_from (Rk 0 2 ((tI 5 x_v10) :: (tI 8 x_v10) :: (K114m2 s a_s c_s fn_f fa_f fc_f)) p d fun a9 ak => ?_)))))
    refine wf (wp_seq (wp_region_from (Rk 0 3 ((tI 13 x_v10) :: (tS 12 a_s s.length c_s) :: (11, .one (.c (.func fn_f fa_f fc_f))) :: (tI 5 x_v10) :: (tI 8 x_v10) :: (K114m2 s a_s c_s fn_f fa_f fc_f)) ak d fun ba al => ?_)))
    obtain ⟨x14, ex14, a⟩ := bnd a
    obtain ⟨ax, ay, a0⟩ := idx_some ex14
    obtain ⟨e, k, a4, ag, az, ah⟩ := hr_s.get (by decide) a0
    obtain ⟨_, _, rfl, rfl, ⟨_, _, rfl, rfl, ⟨_, _, rfl, rfl, ⟨_, _, rfl, rfl, ⟨_, _, rfl, rfl, rfl⟩⟩⟩⟩⟩ := az
    have u : Mem ⟨w, h, noX⟩ b [(e, k + (x_v10 : Int).toNat * 6)] [⟨(K114c1 x14), none⟩] [] a3 := d.addPlc (cs := (K114c1 x14)) (fun j c hj => ah j _ (map_get hj)) rfl (by kernel_rfl) (by kernel_rfl)
    refine R_index 3 (x_v10) rfl rfl (rfl) rfl (by decide) al (by rfl) (by rfl) (by rfl) ag (by rfl) ax ay (by kernel_rfl) fun a2 (am : Kn 19 [(e, k + (x_v10 : Int).toNat * 6)] ((tP 14 0 0) :: (tI 13 x_v10) :: (tS 12 a_s s.length c_s) :: (11, .one (.c (.func fn_f fa_f fc_f))) :: (tI 5 x_v10) :: (tI 8 x_v10) :: (K114m2 s a_s c_s fn_f fa_f fc_f)) a2) => ?_
    refine Rk 4 1 ((tA 15 (K114c1 x14)) :: (11, .one (.c (.func fn_f fa_f fc_f))) :: (tI 5 x_v10) :: (tI 8 x_v10) :: (K114m2 s a_s c_s fn_f fa_f fc_f)) am u fun bc ao => ?_
    obtain ⟨x16, ex16, a⟩ := bnd a
    refine wl fun K hK => ?_
    refine wp_callV (.func fn_f fa_f fc_f) [.agg (K114c1 x14)] _ ao u rfl rfl (by decide) (by rfl) (by rfl) rfl (hf_f _ _ (Heap.le_refl _) u.has x14 _ ((rep_pair rep_int (rep_pair rep_int (rep_pair rep_int (rep_pair rep_ik (rep_pair rep_int rep_int))))) : rep b x14 _) _ ex16) fun bg a5 bh af aw i => ?_
    obtain rfl := af
    refine ⟨.one (.c (.bool x16)), rfl, fun ae (ap : Kn 19 [(e, k + (x_v10 : Int).toNat * 6)] ((tB 16 x16) :: (tA 15 (K114c1 x14)) :: (11, .one (.c (.func fn_f fa_f fc_f))) :: (tI 5 x_v10) :: (tI 8 x_v10) :: (K114m2 s a_s c_s fn_f fa_f fc_f)) ae) => hK _ _ ?_⟩
    have q : Kn 19 [(e, k + (x_v10 : Int).toNat * 6)] ((tB 16 x16) :: (tI 5 x_v10) :: (tI 8 x_v10) :: (K114m2 s a_s c_s fn_f fa_f fc_f)) ae := ap.kp
    refine wf (wC (x16) q (fun o => ?_) (fun o => ?_))
    ·
     rw [o, cond_true] at a
     refine wp_seq (wp_region_from (Rk 0 2 [(tI 4 x_v10)] q i fun bd aq => ?_))
     refine wf (wp_ret ?_)
     obtain rfl := Option.some.inj a
     obtain rfl := Option.some.inj H
     exact rt (.one (.c (.int .i64 x_v10))) aq i rfl
    ·
     rw [o, cond_false] at a
     refine wp_skip (wp_region_from (Rk 0 2 ((tI 8 (IntKind.i64.wrap (x_v10 + 1))) :: (K114m2 s a_s c_s fn_f fa_f fc_f)) q i fun be ar => ?_))
     refine wf ?_
     exact Exists.intro x ⟨Nat.lt_succ_self _, Exists.intro (IntKind.i64.wrap (x_v10 + 1)) ⟨_, _, rfl, ((ar.keep [8, 7, 0, 1] (by rfl)).cut 0 (by kernel_rfl)), (i.cutPl 0 (by kernel_rfl)), (Heap.le_trans g aw), a⟩⟩
   ·
    rw [m, cond_false] at a
    refine wp_exit ?_
    obtain rfl := Option.some.inj a
    exact Exists.intro () ⟨_, _, rfl, p.kp, d, g, rfl⟩
 ·
  rintro _ bi ⟨ad, z, l, rfl, au, ab, a6, rfl⟩
  rw [Ex.bind_go] at H
  refine wp_seq (wp_region_from (Rk 0 1 [(tI 4 (-1))] au ab fun bf av => ?_))
  refine wf (wp_ret ?_)
  obtain rfl := Option.some.inj H
  exact rt (.one (.c (.int .i64 (-1)))) av ab rfl
set_option maxRecDepth 100000 in
set_option maxHeartbeats 4000000 in
theorem slices_ContainsFunc_pit_Card_pit_Card_ok (n : Nat) {h : Heap} {w : World} (hh : Has h w) (s : List Card) {a_s : Option Addr} {c_s : Nat} (hr_s : RepS h a_s c_s s) (f : Card → Option Bool) {fn_f : Fn} {fa_f fc_f : Array Value} (hf_f : Fn1 h (.func fn_f fa_f fc_f) f) {r : Bool} (H : slices_ContainsFunc_pit_Card_pit_Card n s f = some r) :
  Calls Try.prog 95 #[.slice a_s s.length c_s, .func fn_f fa_f fc_f] w (Ret (fun h v => v = .bool r) h w) := by
 refine enter 9 [.c (.slice a_s s.length c_s), .c (.func fn_f fa_f fc_f)] Try.func95 rfl rfl rfl rfl fun t hk => ?_
 have hm := Mem.begin h w hh
 unfold slices_ContainsFunc_pit_Card_pit_Card at H
 refine wp_seq (wp_region_from (Rk 0 1 [(tS 0 a_s s.length c_s), (1, .one (.c (.func fn_f fa_f fc_f)))] hk hm fun m g => ?_))
 refine wf (wp_seq (wp_region_from (Rk 0 2 [(6, .one (.c (.func fn_f fa_f fc_f))), (tS 5 a_s s.length c_s)] g hm fun p i => ?_)))
 obtain ⟨x7, ex7, H⟩ := bnd H
 refine wl fun K hK => ?_
 refine wc [.c (.slice a_s s.length c_s), .c (.func fn_f fa_f fc_f)] i hm (slices_IndexFunc_pit_Card_pit_Card_ok n hm.has s hr_s f hf_f ex7) fun q k u b l a => ?_
 obtain rfl := b
 refine ⟨.one (.c (.int .i64 x7)), rfl, fun j (d : Kn 9 [] [(tI 7 x7), (6, .one (.c (.func fn_f fa_f fc_f))), (tS 5 a_s s.length c_s)] j) => hK _ _ ?_⟩
 refine Rk 3 2 [(tB 4 (decide (x7 ≥ 0)))] d a fun o e => ?_
 refine wf (wp_ret ?_)
 obtain rfl := Option.some.inj H
 exact rt (.one (.c (.bool (decide (x7 ≥ 0))))) e a rfl
abbrev K96c1 (x : Card) : List SC := [.int .i64 x.bus, .int .i64 x.number, .int .i64 x.minute, .int .u8 x.kind.n, .int .i64 x.part, .int .i64 x.sg]
set_option maxRecDepth 100000 in
set_option maxHeartbeats 4000000 in
theorem pit_all_pit_Card_1_ok (n : Nat) {h : Heap} {w : World} (hh : Has h w) (x : Card) {cs_x : List Value} (hx_x : rep h x cs_x) (q0 : Card → Option Bool) {b_q0 : Nat} (hb_q0 : BoxS h b_q0 q0) {r : Bool} (H : pit_all_pit_Card_1 n x q0 = some r) :
  Calls Try.prog 96 #[.agg cs_x.toArray, .pointer (some ⟨b_q0, 0, none⟩)] w (Ret (fun h v => v = .bool r) h w) := by
 obtain ⟨_, _, rfl, rfl, ⟨_, _, rfl, rfl, ⟨_, _, rfl, rfl, ⟨_, _, rfl, rfl, ⟨_, _, rfl, rfl, rfl⟩⟩⟩⟩⟩ := hx_x
 obtain ⟨_, hx_q0, hc_q0⟩ := id hb_q0
 obtain ⟨d, a, b, rfl, l⟩ := hx_q0
 refine enter' (e := [(b_q0, 0)]) 8 [.agg (K96c1 x), .c (.ptr 0 0)] Try.func96 rfl rfl rfl rfl fun t hk => ?_
 have hm := Mem.begin h w hh
 replace hm := hm.addPlc (o := 0) (cs := [.func d a b]) (fun j c hj => by rw [Nat.zero_add]; exact hc_q0 j _ (map_get hj)) rfl (by kernel_rfl) (by kernel_rfl)
 replace hm : Mem ⟨w, h, noX⟩ h [(b_q0, 0)] [⟨[.func d a b], none⟩] [] w := hm
 unfold pit_all_pit_Card_1 at H
 refine wp_seq (wp_region_from (wl fun K hK => ?_))
 refine wb (.agg (K96c1 x)) hk hm fun g z aa (u : Kn 8 [(b_q0, 0), (g, 0)] [(tP 2 1 0), (tA 0 (K96c1 x)), (tP 1 0 0)] z) (f : Mem ⟨w, h, noX⟩ h [(b_q0, 0), (g, 0)] [⟨[.func d a b], none⟩, ⟨(K96c1 x), some 99⟩] [] aa) => hK _ _ ?_
 refine Rk 1 1 [(tP 2 1 0), (tP 1 0 0)] u f fun ad m => ?_
 refine wf (wp_seq (wp_region_from (Rk 0 2 [(tA 5 (K96c1 x)), (4, .one (.c (.func d a b)))] m f fun ae p => ?_)))
 obtain ⟨x6, ex6, H⟩ := bnd H
 refine wl fun K hK => ?_
 refine wp_callV (.func d a b) [.agg (K96c1 x)] _ p f rfl rfl (by decide) (by rfl) (by rfl) rfl (l _ _ (Heap.le_refl _) f.has x _ ((rep_pair rep_int (rep_pair rep_int (rep_pair rep_int (rep_pair rep_ik (rep_pair rep_int rep_int))))) : rep h x _) _ ex6) fun ag ab ah k ac i => ?_
 obtain rfl := k
 refine ⟨.one (.c (.bool x6)), rfl, fun y (q : Kn 8 [(b_q0, 0), (g, 0)] [(tB 6 x6), (tA 5 (K96c1 x)), (4, .one (.c (.func d a b)))] y) => hK _ _ ?_⟩
 refine Rk 3 2 [(tB 3 (!x6))] q i fun af s => ?_
 refine wf (wp_ret ?_)
 obtain rfl := Option.some.inj H
 exact rt (.one (.c (.bool (!x6)))) s i rfl
set_option maxRecDepth 100000 in
set_option maxHeartbeats 4000000 in
theorem pit_all_pit_Card_ok (n : Nat) {h : Heap} {w : World} (hh : Has h w) (l : List Card) {a_l : Option Addr} {c_l : Nat} (hr_l : RepS h a_l c_l l) (right : Card → Option Bool) {fn_right : Fn} {fa_right fc_right : Array Value} (hf_right : Fn1 h (.func fn_right fa_right fc_right) right) {r : Bool} (H : pit_all_pit_Card n l right = some r) :
  Calls Try.prog 81 #[.slice a_l l.length c_l, .func fn_right fa_right fc_right] w (Ret (fun h v => v = .bool r) h w) := by
 refine enter 9 [.c (.slice a_l l.length c_l), .c (.func fn_right fa_right fc_right)] Try.func81 rfl rfl rfl rfl fun t hk => ?_
 have hm := Mem.begin h w hh
 unfold pit_all_pit_Card at H
 refine wp_seq (wp_region_from (wl fun K hK => ?_))
 refine wb (.c (.func fn_right fa_right fc_right)) hk hm fun a ab m (x : Kn 9 [(a, 0)] [(tP 3 0 0), (tS 0 a_l l.length c_l), (1, .one (.c (.func fn_right fa_right fc_right)))] ab) (f : Mem ⟨w, h, noX⟩ h [(a, 0)] [⟨[.func fn_right fa_right fc_right], some 117⟩] [] m) => hK _ _ ?_
 refine Rk 1 1 [(tP 3 0 0), (tS 0 a_l l.length c_l)] x f fun ah y => ?_
 refine wf (wp_seq (wp_region_from (Rk 0 1 [(tS 5 a_l l.length c_l), (tP 3 0 0)] y f fun ai z => ?_)))
 obtain ⟨b, j, g, d⟩ := f.settlePlc (i := 0) rfl
 replace hr_l := hr_l.mono j
 replace hf_right := hf_right.mono j
 replace d : Mem ⟨w, h, noX⟩ b [(a, 0)] [⟨[.func fn_right fa_right fc_right], none⟩] [] m := d
 have p : BoxS b a (right : Card → Option Bool) := BoxS.of (e := [(a, 0)]) (cs := [.func fn_right fa_right fc_right]) (⟨_, _, _, rfl, hf_right⟩ : rep b (right : Card → Option Bool) _) rfl g
 have ae : CellsAt b a [.func fn_right fa_right fc_right] := CellsAt.of (e := [(a, 0)]) (cs := [.func fn_right fa_right fc_right]) rfl g
 refine R_func 1 #[] #[.pointer (some ⟨a, 0, none⟩)] z rfl rfl (rfl) rfl (by decide) (by rfl) (by rfl) (by rfl) (by rfl) fun aa (q : Kn 9 [(a, 0)] [(6, .one (.c (.func (.func 96) #[] #[.pointer (some ⟨a, 0, none⟩)]))), (tS 5 a_l l.length c_l), (tP 3 0 0)] aa) => ?_
 obtain ⟨x7, ex7, H⟩ := bnd H
 refine wl fun K hK => ?_
 refine wc [.c (.slice a_l l.length c_l), .c (.func (.func 96) #[] #[.pointer (some ⟨a, 0, none⟩)])] q d (slices_ContainsFunc_pit_Card_pit_Card_ok n d.has l hr_l (fun (y0 : Card) => pit_all_pit_Card_1 n y0 right) (show Fn1 b (.func (.func 96) #[] #[.pointer (some ⟨a, 0, none⟩)]) (fun (y0 : Card) => pit_all_pit_Card_1 n y0 right) from fun h2 w2 hle hh y0 cs0 hy0 r H => ⟨96, _, _, rfl, fun _ _ => by kernel_rfl, pit_all_pit_Card_1_ok n hh y0 hy0 right (p.mono hle) H⟩) ex7) fun aj ad ak o af k => ?_
 obtain rfl := o
 refine ⟨.one (.c (.bool x7)), rfl, fun ac (s : Kn 9 [(a, 0)] [(tB 7 x7), (6, .one (.c (.func (.func 96) #[] #[.pointer (some ⟨a, 0, none⟩)]))), (tS 5 a_l l.length c_l), (tP 3 0 0)] ac) => hK _ _ ?_⟩
 refine Rk 3 2 [(tB 4 (!x7))] s k fun ag u => ?_
 refine wf (wp_ret ?_)
 obtain rfl := Option.some.inj H
 exact rt (.one (.c (.bool (!x7)))) u k rfl
set_option maxRecDepth 100000 in
set_option maxHeartbeats 4000000 in
theorem pit_within_ok (n : Nat) {h : Heap} {w : World} (hh : Has h w) (n_ : Int) (low : Int) (high : Int) {r : Bool} (H : pit_within n n_ low high = some r) :
  Calls Try.prog 56 #[.int .i64 n_, .int .i64 low, .int .i64 high] w (Ret (fun h v => v = .bool r) h w) := by
 refine enter 15 [.c (.int .i64 n_), .c (.int .i64 low), .c (.int .i64 high)] Try.func56 rfl rfl rfl rfl fun t hk => ?_
 have hm := Mem.begin h w hh
 unfold pit_within at H
 refine wp_seq (wp_region_from (Rk 0 1 [(tI 0 n_), (tI 1 low), (tI 2 high)] hk hm fun k f => ?_))
 refine wf (wp_seq (wp_region_from (Rk 0 4 [(tB 10 (decide (low ≤ n_))), (tI 0 n_), (tI 2 high)] f hm fun d b => ?_)))
 rcases Bool.eq_false_or_eq_true (decide (low ≤ n_)) with a | a
 ·
  rw [a, cond_true] at H
  have g : Kn 15 [] [(tB 10 true), (tI 0 n_), (tI 2 high)] d := (b.setB 10 true (by rfl) a).kp
  refine Rk 4 5 [(tB 6 (decide (n_ ≤ high)))] g hm fun m i => ?_
  refine wf (wp_ret ?_)
  obtain rfl := Option.some.inj H
  exact rt (.one (.c (.bool (decide (n_ ≤ high))))) i hm rfl
 ·
  rw [a, cond_false] at H
  have j : Kn 15 [] [(tB 10 false), (tI 0 n_), (tI 2 high)] d := (b.setB 10 false (by rfl) a).kp
  refine Rk 4 5 [(tB 6 false)] j hm fun l e => ?_
  refine wf (wp_ret ?_)
  obtain rfl := Option.some.inj H
  exact rt (.one (.c (.bool false))) e hm rfl
set_option maxRecDepth 100000 in
set_option maxHeartbeats 4000000 in
theorem pit_minute_ok (n : Nat) {h : Heap} {w : World} (hh : Has h w) (n_ : Int) {r : Bool} (H : pit_minute n n_ = some r) :
  Calls Try.prog 57 #[.int .i64 n_] w (Ret (fun h v => v = .bool r) h w) := by
 refine enter 5 [.c (.int .i64 n_)] Try.func57 rfl rfl rfl rfl fun t hk => ?_
 have hm := Mem.begin h w hh
 unfold pit_minute at H
 refine wp_seq (wp_region_from (Rk 0 1 [(tI 0 n_)] hk hm fun l f => ?_))
 refine wf (wp_seq (wp_region_from (Rk 0 1 [(tI 3 n_)] f hm fun o g => ?_)))
 obtain ⟨x4, ex4, H⟩ := bnd H
 refine wl fun K hK => ?_
 refine wc [.c (.int .i64 n_), .c (.int .i64 0), .c (.int .i64 1000000)] g hm (pit_within_ok n hm.has n_ 0 1000000 ex4) fun p j q b k a => ?_
 obtain rfl := b
 refine ⟨.one (.c (.bool x4)), rfl, fun i (d : Kn 5 [] [(tB 4 x4), (tI 3 n_)] i) => hK _ _ ?_⟩
 refine Rk 2 1 [(tB 2 x4)] d a fun m e => ?_
 refine wf (wp_ret ?_)
 obtain rfl := Option.some.inj H
 exact rt (.one (.c (.bool x4))) e a rfl
abbrev K115c1 (c : Card) : List SC := [.int .i64 c.bus, .int .i64 c.number, .int .i64 c.minute, .int .u8 c.kind.n, .int .i64 c.part, .int .i64 c.sg]
set_option maxRecDepth 100000 in
set_option maxHeartbeats 4000000 in
theorem pit_Card_parted_ok (n : Nat) {h : Heap} {w : World} (hh : Has h w) (c : Card) {cs_c : List Value} (hx_c : rep h c cs_c) {r : Bool} (H : pit_Card_parted n c = some r) :
  Calls Try.prog 115 #[.agg cs_c.toArray] w (Ret (fun h v => v = .bool r) h w) := by
 obtain ⟨_, _, rfl, rfl, ⟨_, _, rfl, rfl, ⟨_, _, rfl, rfl, ⟨_, _, rfl, rfl, ⟨_, _, rfl, rfl, rfl⟩⟩⟩⟩⟩ := hx_c
 refine enter 11 [.agg (K115c1 c)] Try.func115 rfl rfl rfl rfl fun t hk => ?_
 have hm := Mem.begin h w hh
 unfold pit_Card_parted at H
 refine wp_seq (wp_region_from (wl fun K hK => ?_))
 refine wb (.agg (K115c1 c)) hk hm fun a x y (p : Kn 11 [(a, 0)] [(tP 1 0 0), (tA 0 (K115c1 c))] x) (e : Mem ⟨w, h, noX⟩ h [(a, 0)] [⟨(K115c1 c), some 99⟩] [] y) => hK _ _ ?_
 refine Rk 1 1 [(tP 1 0 0)] p e fun ad q => ?_
 refine wf (wp_seq (wp_region_from (Rk 0 2 [(tI 4 c.part), (tP 1 0 0)] q e fun ae s => ?_)))
 obtain ⟨x5, ex5, H⟩ := bnd H
 refine wl fun K hK => ?_
 refine wc [.c (.int .i64 c.part), .c (.int .i64 0), .c (.int .i64 15)] s e (pit_within_ok n e.has c.part 0 15 ex5) fun af z ag i aa d => ?_
 obtain rfl := i
 refine ⟨.one (.c (.bool x5)), rfl, fun u (j : Kn 11 [(a, 0)] [(tB 5 x5), (tI 4 c.part), (tP 1 0 0)] u) => hK _ _ ?_⟩
 refine Rk 3 1 [(tB 6 x5), (tP 1 0 0)] j d fun g f => ?_
 rcases Bool.eq_false_or_eq_true (x5) with b | b
 ·
  rw [b, cond_true] at H
  have k : Kn 11 [(a, 0)] [(tB 6 true), (tP 1 0 0)] g := (f.setB 6 true (by rfl) b).kp
  refine Rk 4 5 [(tB 2 (c.sg == 0))] k d fun ab l => ?_
  refine wf (wp_ret ?_)
  obtain rfl := Option.some.inj H
  exact rt (.one (.c (.bool (c.sg == 0)))) l d rfl
 ·
  rw [b, cond_false] at H
  have m : Kn 11 [(a, 0)] [(tB 6 false), (tP 1 0 0)] g := (f.setB 6 false (by rfl) b).kp
  refine Rk 4 5 [(tB 2 false)] m d fun ac o => ?_
  refine wf (wp_ret ?_)
  obtain rfl := Option.some.inj H
  exact rt (.one (.c (.bool false))) o d rfl
abbrev K116c1 (c : Card) : List SC := [.int .i64 c.bus, .int .i64 c.number, .int .i64 c.minute, .int .u8 c.kind.n, .int .i64 c.part, .int .i64 c.sg]
set_option maxRecDepth 100000 in
set_option maxHeartbeats 4000000 in
theorem pit_Card_signing_ok (n : Nat) {h : Heap} {w : World} (hh : Has h w) (c : Card) {cs_c : List Value} (hx_c : rep h c cs_c) {r : Bool} (H : pit_Card_signing n c = some r) :
  Calls Try.prog 116 #[.agg cs_c.toArray] w (Ret (fun h v => v = .bool r) h w) := by
 obtain ⟨_, _, rfl, rfl, ⟨_, _, rfl, rfl, ⟨_, _, rfl, rfl, ⟨_, _, rfl, rfl, ⟨_, _, rfl, rfl, rfl⟩⟩⟩⟩⟩ := hx_c
 refine enter 11 [.agg (K116c1 c)] Try.func116 rfl rfl rfl rfl fun t hk => ?_
 have hm := Mem.begin h w hh
 unfold pit_Card_signing at H
 refine wp_seq (wp_region_from (wl fun K hK => ?_))
 refine wb (.agg (K116c1 c)) hk hm fun b u y (q : Kn 11 [(b, 0)] [(tP 1 0 0), (tA 0 (K116c1 c))] u) (a : Mem ⟨w, h, noX⟩ h [(b, 0)] [⟨(K116c1 c), some 99⟩] [] y) => hK _ _ ?_
 refine Rk 1 1 [(tP 1 0 0)] q a fun ae s => ?_
 refine wf (wp_seq (wp_region_from (Rk 0 4 [(tB 6 (c.part == 0)), (tP 1 0 0)] s a fun i f => ?_)))
 rcases Bool.eq_false_or_eq_true ((c.part == 0)) with d | d
 ·
  rw [d, cond_true] at H
  have k : Kn 11 [(b, 0)] [(tB 6 true), (tP 1 0 0)] i := (f.setB 6 true (by rfl) d).kp
  refine Rk 4 2 [(tI 8 c.sg), (tB 6 true)] k a fun ab e => ?_
  obtain ⟨x9, ex9, H⟩ := bnd H
  refine wpFrom_loud _ rfl (wantedS_sound e (by kernel_rfl)) fun K hK => ?_
  refine wc [.c (.int .i64 c.sg), .c (.int .i64 1), .c (.int .i64 999)] e a (pit_within_ok n a.has c.sg 1 999 ex9) fun af z ag j aa g => ?_
  obtain rfl := j
  refine ⟨.one (.c (.bool x9)), rfl, fun x (l : Kn 11 [(b, 0)] [(tB 9 x9), (tI 8 c.sg), (tB 6 true)] x) => hK _ _ ?_⟩
  refine Rk 7 2 [(tB 2 x9)] l g fun ac m => ?_
  refine wf (wp_ret ?_)
  obtain rfl := Option.some.inj H
  exact rt (.one (.c (.bool x9))) m g rfl
 ·
  rw [d, cond_false] at H
  have o : Kn 11 [(b, 0)] [(tB 6 false), (tP 1 0 0)] i := (f.setB 6 false (by rfl) d).kp
  refine Rk 4 5 [(tB 2 false)] o a fun ad p => ?_
  refine wf (wp_ret ?_)
  obtain rfl := Option.some.inj H
  exact rt (.one (.c (.bool false))) p a rfl
abbrev K117c1 (c : Card) : List SC := [.int .i64 c.bus, .int .i64 c.number, .int .i64 c.minute, .int .u8 c.kind.n, .int .i64 c.part, .int .i64 c.sg]
set_option maxRecDepth 100000 in
set_option maxHeartbeats 4000000 in
theorem pit_Card_bare_ok (n : Nat) {h : Heap} {w : World} (hh : Has h w) (c : Card) {cs_c : List Value} (hx_c : rep h c cs_c) {r : Bool} (H : pit_Card_bare n c = some r) :
  Calls Try.prog 117 #[.agg cs_c.toArray] w (Ret (fun h v => v = .bool r) h w) := by
 obtain ⟨_, _, rfl, rfl, ⟨_, _, rfl, rfl, ⟨_, _, rfl, rfl, ⟨_, _, rfl, rfl, ⟨_, _, rfl, rfl, rfl⟩⟩⟩⟩⟩ := hx_c
 refine enter 11 [.agg (K117c1 c)] Try.func117 rfl rfl rfl rfl fun t hk => ?_
 have hm := Mem.begin h w hh
 unfold pit_Card_bare at H
 refine wp_seq (wp_region_from (wl fun K hK => ?_))
 refine wb (.agg (K117c1 c)) hk hm fun d o p (l : Kn 11 [(d, 0)] [(tP 1 0 0), (tA 0 (K117c1 c))] o) (a : Mem ⟨w, h, noX⟩ h [(d, 0)] [⟨(K117c1 c), some 99⟩] [] p) => hK _ _ ?_
 refine Rk 1 1 [(tP 1 0 0)] l a fun u m => ?_
 refine wf (wp_seq (wp_region_from (Rk 0 4 [(tB 6 (c.part == 0)), (tP 1 0 0)] m a fun f e => ?_)))
 rcases Bool.eq_false_or_eq_true ((c.part == 0)) with b | b
 ·
  rw [b, cond_true] at H
  have g : Kn 11 [(d, 0)] [(tB 6 true), (tP 1 0 0)] f := (e.setB 6 true (by rfl) b).kp
  refine Rk 4 5 [(tB 2 (c.sg == 0))] g a fun q i => ?_
  refine wf (wp_ret ?_)
  obtain rfl := Option.some.inj H
  exact rt (.one (.c (.bool (c.sg == 0)))) i a rfl
 ·
  rw [b, cond_false] at H
  have j : Kn 11 [(d, 0)] [(tB 6 false), (tP 1 0 0)] f := (e.setB 6 false (by rfl) b).kp
  refine Rk 4 5 [(tB 2 false)] j a fun s k => ?_
  refine wf (wp_ret ?_)
  obtain rfl := Option.some.inj H
  exact rt (.one (.c (.bool false))) k a rfl
set_option maxRecDepth 100000 in
set_option maxHeartbeats 4000000 in
theorem pit_kinds_ok (n : Nat) {h : Heap} {w : World} (hh : Has h w)  {r : List Kind} (H : pit_kinds n  = some r) :
  Calls Try.prog 97 #[] w (Ret (fun h v => ∃ a c, v = .slice a r.length c ∧ RepS h a c r) h w) := by
 refine enter 6 [] Try.func97 rfl rfl rfl rfl fun t hk => ?_
 have hm := Mem.begin h w hh
 unfold pit_kinds at H
 refine wp_seq (wp_region_from (Rk 0 1 [] hk hm fun x l => ?_))
 refine wf (wp_seq (wp_region_from (Rk 0 4 [(tA 4 [.func (.func 117) #[] #[]]), (tA 3 [.func (.func 116) #[] #[]]), (tA 2 [.func (.func 115) #[] #[]]), (tA 1 [.func (.func 115) #[] #[]])] l hm fun z m => ?_)))
 refine wl fun K hK => ?_
 refine wS 149 1 [.func (.func 115) #[] #[], .func (.func 115) #[] #[], .func (.func 116) #[] #[], .func (.func 117) #[] #[]] m hm fun b u j (o : Kn 6 [] [(tS 5 b 4 4), (tA 4 [.func (.func 117) #[] #[]]), (tA 3 [.func (.func 116) #[] #[]]), (tA 2 [.func (.func 115) #[] #[]]), (tA 1 [.func (.func 115) #[] #[]])] u) (f : Mem ⟨w, h, noX⟩ h [] [] [⟨b, 4, 4, 149, 1, ([.func (.func 115) #[] #[], .func (.func 115) #[] #[], .func (.func 116) #[] #[], .func (.func 117) #[] #[]] : List Value), 0⟩] j) => ?_
 have d : Cells h ([(Kind.mk (fun (y0 : Card) => pit_Card_parted n y0)), (Kind.mk (fun (y0 : Card) => pit_Card_parted n y0)), (Kind.mk (fun (y0 : Card) => pit_Card_signing n y0)), (Kind.mk (fun (y0 : Card) => pit_Card_bare n y0))] : List Kind) ([.func (.func 115) #[] #[], .func (.func 115) #[] #[], .func (.func 116) #[] #[], .func (.func 117) #[] #[]] : List Value) := ⟨_, _, rfl, (⟨_, _, _, rfl, (show Fn1 h (.func (.func 115) #[] #[]) (fun (y0 : Card) => pit_Card_parted n y0) from fun h2 w2 hle hh y0 cs0 hy0 r H => ⟨115, _, _, rfl, fun _ _ => by kernel_rfl, pit_Card_parted_ok n hh y0 hy0 H⟩)⟩ : rep h ((Kind.mk (fun (y0 : Card) => pit_Card_parted n y0)) : Kind) _), ⟨_, _, rfl, (⟨_, _, _, rfl, (show Fn1 h (.func (.func 115) #[] #[]) (fun (y0 : Card) => pit_Card_parted n y0) from fun h2 w2 hle hh y0 cs0 hy0 r H => ⟨115, _, _, rfl, fun _ _ => by kernel_rfl, pit_Card_parted_ok n hh y0 hy0 H⟩)⟩ : rep h ((Kind.mk (fun (y0 : Card) => pit_Card_parted n y0)) : Kind) _), ⟨_, _, rfl, (⟨_, _, _, rfl, (show Fn1 h (.func (.func 116) #[] #[]) (fun (y0 : Card) => pit_Card_signing n y0) from fun h2 w2 hle hh y0 cs0 hy0 r H => ⟨116, _, _, rfl, fun _ _ => by kernel_rfl, pit_Card_signing_ok n hh y0 hy0 H⟩)⟩ : rep h ((Kind.mk (fun (y0 : Card) => pit_Card_signing n y0)) : Kind) _), ⟨_, _, rfl, (⟨_, _, _, rfl, (show Fn1 h (.func (.func 117) #[] #[]) (fun (y0 : Card) => pit_Card_bare n y0) from fun h2 w2 hle hh y0 cs0 hy0 r H => ⟨117, _, _, rfl, fun _ _ => by kernel_rfl, pit_Card_bare_ok n hh y0 hy0 H⟩)⟩ : rep h ((Kind.mk (fun (y0 : Card) => pit_Card_bare n y0)) : Kind) _), rfl⟩⟩⟩⟩
 refine hK _ _ ?_
 refine Rk 5 1 [(tS 0 b 4 4)] o f fun y k => ?_
 refine wf (wp_ret ?_)
 obtain ⟨g, p, s, e⟩ := f.settle (i := 0) rfl
 replace d := d.mono p
 replace e : Mem ⟨w, h, noX⟩ g [] [] [⟨b, 4, 4, 149, 1, ([.func (.func 115) #[] #[], .func (.func 115) #[] #[], .func (.func 116) #[] #[], .func (.func 117) #[] #[]] : List Value), (([.func (.func 115) #[] #[], .func (.func 115) #[] #[], .func (.func 116) #[] #[], .func (.func 117) #[] #[]] : List Value) : List Value).length⟩] j := e
 have q : RepS g b 4 ([(Kind.mk (fun (y0 : Card) => pit_Card_parted n y0)), (Kind.mk (fun (y0 : Card) => pit_Card_parted n y0)), (Kind.mk (fun (y0 : Card) => pit_Card_signing n y0)), (Kind.mk (fun (y0 : Card) => pit_Card_bare n y0))] : List Kind) := ⟨_, d, s, f.rowCap (i := 0) rfl⟩
 obtain rfl := Option.some.inj H
 exact rt (.one (.c (.slice b 4 4))) k e ⟨_, _, rfl, q⟩
abbrev K82c1 (c : Card) : List SC := [.int .i64 c.bus, .int .i64 c.number, .int .i64 c.minute, .int .u8 c.kind.n, .int .i64 c.part, .int .i64 c.sg]
abbrev K82m2 (c : Card) : TM := [(tA 31 (K82c1 c)), (27, .one (.c (.int .u8 c.kind.n))), (tB 24 true)]
set_option maxRecDepth 100000 in
set_option maxHeartbeats 4000000 in
theorem pit_Card_valid_ok (n : Nat) {h : Heap} {w : World} (hh : Has h w) (c : Card) {cs_c : List Value} (hx_c : rep h c cs_c) {r : Bool} (H : pit_Card_valid n c = some r) :
  Calls Try.prog 82 #[.agg cs_c.toArray] w (Ret (fun h v => v = .bool r) h w) := by
 obtain ⟨_, _, rfl, rfl, ⟨_, _, rfl, rfl, ⟨_, _, rfl, rfl, ⟨_, _, rfl, rfl, ⟨_, _, rfl, rfl, rfl⟩⟩⟩⟩⟩ := hx_c
 refine enter 34 [.agg (K82c1 c)] Try.func82 rfl rfl rfl rfl fun t hk => ?_
 have hm := Mem.begin h w hh
 unfold pit_Card_valid at H
 refine wp_seq (wp_region_from (wl fun K hK => ?_))
 refine wb (.agg (K82c1 c)) hk hm fun a bx b4 (bi : Kn 34 [(a, 0)] [(tP 1 0 0), (tA 0 (K82c1 c))] bx) (l : Mem ⟨w, h, noX⟩ h [(a, 0)] [⟨(K82c1 c), some 99⟩] [] b4) => hK _ _ ?_
 refine Rk 1 1 [(tP 1 0 0)] bi l fun cr bn => ?_
 refine wf (wp_seq (wp_region_G (by kernel_rfl) ?_))
 replace l := l.drew
 refine wpG_of_D [] [(a, 0)] [⟨(K82c1 c), some 99⟩] ?_
 refine Dr [0, 1] [1, 0] [(tI 4 c.bus), (tP 1 0 0)] bn l fun cu bo => ?_
 obtain ⟨x5, ex5, H⟩ := bnd H
 refine Dl 2 fun K hK => ?_
 refine wc [.c (.int .i64 c.bus), .c (.int .i64 0), .c (.int .i64 99)] bo l (pit_within_ok n l.has c.bus 0 99 ex5) fun cw b7 c3 aw cd b => ?_
 obtain rfl := aw
 refine ⟨.one (.c (.bool x5)), rfl, fun bw (be : Kn 34 [(a, 0)] [(tB 5 x5), (tI 4 c.bus), (tP 1 0 0)] bw) => hK _ _ b.plOk ?_⟩
 refine Dr [3] (dn 3) [(tB 6 x5), (tP 1 0 0)] be b fun ap af => ?_
 rcases Bool.eq_false_or_eq_true (x5) with m | m
 ·
  rw [m, cond_true] at H
  have bf : Kn 34 [(a, 0)] [(tB 6 true), (tP 1 0 0)] ap := (af.setB 6 true (by rfl) m).kp
  refine Dr [4, 5] (dn 5) [(tI 8 c.number), (tB 6 true), (tP 1 0 0)] bf b fun co ag => ?_
  obtain ⟨x9, ex9, H⟩ := bnd H
  refine D_loud 6 rfl (by kernel_rfl) (by decide) (wantedS_sound ag (by kernel_rfl)) fun K hK => ?_
  refine wc [.c (.int .i64 c.number), .c (.int .i64 1), .c (.int .i64 999)] ag b (pit_within_ok n b.has c.number 1 999 ex9) fun cx b8 c4 ax ce d => ?_
  obtain rfl := ax
  refine ⟨.one (.c (.bool x9)), rfl, fun bz (bg : Kn 34 [(a, 0)] [(tB 9 x9), (tI 8 c.number), (tB 6 true), (tP 1 0 0)] bz) => hK _ _ d.plOk ?_⟩
  refine Dr [7, 8] (dn 8) [(tB 11 x9), (tP 1 0 0)] bg d fun aq ah => ?_
  rcases Bool.eq_false_or_eq_true (x9) with o | o
  ·
   rw [o, cond_true] at H
   have bh : Kn 34 [(a, 0)] [(tB 11 true), (tP 1 0 0)] aq := (ah.setB 11 true (by rfl) o).kp
   refine Dr [9, 10] (dn 10) [(tI 13 c.minute), (tB 11 true), (tP 1 0 0)] bh d fun cp ai => ?_
   obtain ⟨x14, ex14, H⟩ := bnd H
   refine D_loud 11 rfl (by kernel_rfl) (by decide) (wantedS_sound ai (by kernel_rfl)) fun K hK => ?_
   refine wc [.c (.int .i64 c.minute)] ai d (pit_minute_ok n d.has c.minute ex14) fun cy b9 c5 ay cf e => ?_
   obtain rfl := ay
   refine ⟨.one (.c (.bool x14)), rfl, fun b0 (bj : Kn 34 [(a, 0)] [(tB 14 x14), (tI 13 c.minute), (tB 11 true), (tP 1 0 0)] b0) => hK _ _ e.plOk ?_⟩
   refine Dr [12, 13] (dn 13) [(tB 16 x14), (tP 1 0 0)] bj e fun ar aj => ?_
   rcases Bool.eq_false_or_eq_true (x14) with p | p
   ·
    rw [p, cond_true] at H
    have bk : Kn 34 [(a, 0)] [(tB 16 true), (tP 1 0 0)] ar := (aj.setB 16 true (by rfl) p).kp
    refine Dr [14, 15, 16] (dn 16) [(tI 19 (IntKind.i64.wrap c.kind.n)), (tB 16 true), (tP 1 0 0)] bk e fun cq ak => ?_
    obtain ⟨x20, ex20, H⟩ := bnd H
    refine D_loud 17 rfl (by kernel_rfl) (by decide) (wantedS_sound ak (by kernel_rfl)) fun K hK => ?_
    refine wc [] ak e (pit_kinds_ok n e.has  ex20) fun cz ca c6 az cg f => ?_
    obtain ⟨ac, ad, rfl, ci⟩ := az
    refine ⟨.one (.c (.slice ac x20.length ad)), rfl, fun b1 (bl : Kn 34 [(a, 0)] [(tS 20 ac x20.length ad), (tI 19 (IntKind.i64.wrap c.kind.n)), (tB 16 true), (tP 1 0 0)] b1) => hK _ _ f.plOk ?_⟩
    refine Dr [18, 19, 20, 21] (dn 21) [(tB 24 (decide ((IntKind.i64.wrap c.kind.n) < ((x20.length : Nat) : Int)))), (tP 1 0 0)] bl f fun au al => ?_
    rcases Bool.eq_false_or_eq_true (decide ((IntKind.i64.wrap c.kind.n) < ((x20.length : Nat) : Int))) with q | q
    ·
     rw [q, cond_true] at H
     have bm : Kn 34 [(a, 0)] [(tB 24 true), (tP 1 0 0)] au := (al.setB 24 true (by rfl) q).kp
     refine Dr [23, 24, 28] [28, 24, 23, 21, 20, 19, 18, 17, 16, 15, 14, 13, 12, 11, 10, 9, 8, 7, 6, 5, 4, 3, 2, 1, 0] (K82m2 c) bm f fun ct am => ?_
     obtain ⟨x25, ex25, H⟩ := bnd H
     refine D_loud 22 rfl (by kernel_rfl) (by decide) (wantedS_sound am (by kernel_rfl)) fun K hK => ?_
     refine wc [] am f (pit_kinds_ok n f.has  ex25) fun c0 ae b5 a0 ch z => ?_
     obtain ⟨s, x, rfl, bs⟩ := a0
     refine ⟨.one (.c (.slice s x25.length x)), rfl, fun b2 (an : Kn 34 [(a, 0)] ((tS 25 s x25.length x) :: (K82m2 c)) b2) => hK _ _ z.plOk ?_⟩
     obtain ⟨x28, ex28, H⟩ := bnd H
     obtain ⟨bq, br, bu⟩ := idx_some ex28
     obtain ⟨u, ab, b6, a1, bt, a2⟩ := bs.get (by decide) bu
     obtain ⟨k, g, i, rfl, a3⟩ := bt
     have aa : Mem ⟨w, h, noX⟩ ae [(a, 0), (u, ab + (c.kind.n : Int).toNat * 1)] [⟨(K82c1 c), some 99⟩, ⟨[.func k g i], none⟩] [] b5 := z.addPlc (cs := [.func k g i]) (fun j c hj => a2 j _ (map_get hj)) rfl (by kernel_rfl) (by kernel_rfl)
     refine D_index 25 (c.kind.n) [.func k g i] (fun _ _ _ _ _ h => h) rfl rfl (wantedS_sound an (by kernel_rfl)) rfl (by decide) (by kernel_rfl) (by kernel_rfl) an z.plOk (by rfl) (by rfl) (by rfl) a1 (by rfl) bq br (by kernel_rfl) fun b3 (bp : Kn 34 [(a, 0), (u, ab + (c.kind.n : Int).toNat * 1)] ((tP 28 1 0) :: (tS 25 s x25.length x) :: (K82m2 c)) b3) => ?_
     refine Dr [26, 27] [27, 26, 25, 22, 28, 24, 23, 21, 20, 19, 18, 17, 16, 15, 14, 13, 12, 11, 10, 9, 8, 7, 6, 5, 4, 3, 2, 1, 0] [(30, .one (.c (.func k g i))), (tA 31 (K82c1 c)), (tB 24 true)] bp aa fun cv ao => ?_
     obtain ⟨x32, ex32, H⟩ := bnd H
     refine D_loud 29 rfl (by kernel_rfl) (by decide) (wantedS_sound ao (by kernel_rfl)) fun K hK => ?_
     refine wp_callV (.func k g i) [.agg (K82c1 c)] _ ao aa rfl rfl (by decide) (by rfl) (by rfl) rfl (a3 _ _ (Heap.le_refl _) aa.has c _ ((rep_pair rep_int (rep_pair rep_int (rep_pair rep_int (rep_pair rep_ik (rep_pair rep_int rep_int))))) : rep ae c _) _ ex32) fun c1 cb c2 av cc y => ?_
     obtain rfl := av
     refine ⟨.one (.c (.bool x32)), rfl, fun bv (a4 : Kn 34 [(a, 0), (u, ab + (c.kind.n : Int).toNat * 1)] [(tB 32 x32), (30, .one (.c (.func k g i))), (tA 31 (K82c1 c)), (tB 24 true)] bv) => hK _ _ y.plOk ?_⟩
     refine Dr [30, 31] [31, 30, 29, 27, 26, 25, 22, 28, 24, 23, 21, 20, 19, 18, 17, 16, 15, 14, 13, 12, 11, 10, 9, 8, 7, 6, 5, 4, 3, 2, 1, 0] [(tB 2 x32)] a4 y fun cj a5 => ?_
     refine wpD_end (by kernel_rfl) (wp_ret ?_)
     obtain rfl := Option.some.inj H
     exact rt (.one (.c (.bool x32))) a5 y rfl
    ·
     rw [q, cond_false] at H
     have a6 : Kn 34 [(a, 0)] [(tB 24 false), (tP 1 0 0)] au := (al.setB 24 false (by rfl) q).kp
     refine Dr [22, 23, 24, 25, 26, 27, 28, 29, 30, 31] (dn 31) [(tB 2 false)] a6 f fun ck a7 => ?_
     refine wpD_end (by kernel_rfl) (wp_ret ?_)
     obtain rfl := Option.some.inj H
     exact rt (.one (.c (.bool false))) a7 f rfl
   ·
    rw [p, cond_false] at H
    have a8 : Kn 34 [(a, 0)] [(tB 16 false), (tP 1 0 0)] ar := (aj.setB 16 false (by rfl) p).kp
    refine Dr [14, 15, 16, 17, 18, 19, 20, 21, 22, 23, 24, 25, 26, 27, 28, 29, 30, 31] (dn 31) [(tB 2 false)] a8 e fun cl a9 => ?_
    refine wpD_end (by kernel_rfl) (wp_ret ?_)
    obtain rfl := Option.some.inj H
    exact rt (.one (.c (.bool false))) a9 e rfl
  ·
   rw [o, cond_false] at H
   have ba : Kn 34 [(a, 0)] [(tB 11 false), (tP 1 0 0)] aq := (ah.setB 11 false (by rfl) o).kp
   refine Dr [9, 10, 11, 12, 13, 14, 15, 16, 17, 18, 19, 20, 21, 22, 23, 24, 25, 26, 27, 28, 29, 30, 31] (dn 31) [(tB 2 false)] ba d fun cm bb => ?_
   refine wpD_end (by kernel_rfl) (wp_ret ?_)
   obtain rfl := Option.some.inj H
   exact rt (.one (.c (.bool false))) bb d rfl
 ·
  rw [m, cond_false] at H
  have bc : Kn 34 [(a, 0)] [(tB 6 false), (tP 1 0 0)] ap := (af.setB 6 false (by rfl) m).kp
  refine Dr [4, 5, 6, 7, 8, 9, 10, 11, 12, 13, 14, 15, 16, 17, 18, 19, 20, 21, 22, 23, 24, 25, 26, 27, 28, 29, 30, 31] (dn 31) [(tB 2 false)] bc b fun cn bd => ?_
  refine wpD_end (by kernel_rfl) (wp_ret ?_)
  obtain rfl := Option.some.inj H
  exact rt (.one (.c (.bool false))) bd b rfl
abbrev K71c1 (c : Card) : List SC := [.int .i64 c.bus, .int .i64 c.number, .int .i64 c.minute, .int .u8 c.kind.n, .int .i64 c.part, .int .i64 c.sg]
abbrev K71c2 (d : Card) : List SC := [.int .i64 d.bus, .int .i64 d.number, .int .i64 d.minute, .int .u8 d.kind.n, .int .i64 d.part, .int .i64 d.sg]
abbrev K71m3 : TM := [(tP 3 1 0), (tP 2 0 0)]
abbrev K71m4 : TM := [(tB 27 false), (tP 3 1 0)]
set_option maxRecDepth 100000 in
set_option maxHeartbeats 4000000 in
theorem pit_Card_mended_ok (n : Nat) {h : Heap} {w : World} (hh : Has h w) (c : Card) {cs_c : List Value} (hx_c : rep h c cs_c) (d : Card) {cs_d : List Value} (hx_d : rep h d cs_d) {r : Bool} (H : pit_Card_mended n c d = some r) :
  Calls Try.prog 71 #[.agg cs_c.toArray, .agg cs_d.toArray] w (Ret (fun h v => v = .bool r) h w) := by
 obtain ⟨_, _, rfl, rfl, ⟨_, _, rfl, rfl, ⟨_, _, rfl, rfl, ⟨_, _, rfl, rfl, ⟨_, _, rfl, rfl, rfl⟩⟩⟩⟩⟩ := hx_c
 obtain ⟨_, _, rfl, rfl, ⟨_, _, rfl, rfl, ⟨_, _, rfl, rfl, ⟨_, _, rfl, rfl, ⟨_, _, rfl, rfl, rfl⟩⟩⟩⟩⟩ := hx_d
 refine enter 37 [.agg (K71c1 c), .agg (K71c2 d)] Try.func71 rfl rfl rfl rfl fun t hk => ?_
 have hm := Mem.begin h w hh
 unfold pit_Card_mended at H
 refine wp_seq (wp_region_from (wl fun K hK => ?_))
 refine wb (.agg (K71c1 c)) hk hm fun a a5 a7 (ap : Kn 37 [(a, 0)] [(tP 2 0 0), (tA 0 (K71c1 c)), (tA 1 (K71c2 d))] a5) (a4 : Mem ⟨w, h, noX⟩ h [(a, 0)] [⟨(K71c1 c), some 99⟩] [] a7) => hK _ _ ?_
 refine wl fun K hK => ?_
 refine wb (.agg (K71c2 d)) ap a4 fun e a6 a8 (a3 : Kn 37 [(a, 0), (e, 0)] [(tP 3 1 0), (tP 2 0 0), (tA 0 (K71c1 c)), (tA 1 (K71c2 d))] a6) (f : Mem ⟨w, h, noX⟩ h [(a, 0), (e, 0)] [⟨(K71c1 c), some 99⟩, ⟨(K71c2 d), some 99⟩] [] a8) => hK _ _ ?_
 refine Rk 2 1 K71m3 a3 f fun ba ah => ?_
 refine wf (wp_seq (wp_seq ?_))
 obtain ⟨ab, m, H⟩ := bnd H
 refine wp_mid' (fun a' w' => ∃ (s : Array Value) (o : Heap), a' = ⟨s, []⟩ ∧ Kn 37 [(a, 0), (e, 0)] [(tP 3 1 0), (tP 2 0 0), (tB 16 ab)] s ∧ Mem ⟨w, h, noX⟩ o [(a, 0), (e, 0)] [⟨(K71c1 c), some 99⟩, ⟨(K71c2 d), some 99⟩] [] w' ∧ Heap.le h o) ?_ ?_
 ·
  refine wp_region_from (Rk 0 6 ((tB 10 (c.bus != d.bus)) :: K71m3) ah f fun ac u => ?_)
  rcases Bool.eq_false_or_eq_true ((c.bus != d.bus)) with g | g
  ·
   rw [g, cond_true] at m
   have ai : Kn 37 [(a, 0), (e, 0)] ((tB 10 true) :: K71m3) ac := (u.setB 10 true (by rfl) g).kp
   refine Rk 6 6 ((tB 16 true) :: K71m3) ai f fun bb aj => ?_
   refine wf ?_
   obtain rfl := Option.some.inj m
   exact Exists.intro _ ⟨_, rfl, aj.kp, f, (Heap.le_refl _)⟩
  ·
   rw [g, cond_false] at m
   have ak : Kn 37 [(a, 0), (e, 0)] ((tB 10 false) :: K71m3) ac := (u.setB 10 false (by rfl) g).kp
   refine Rk 6 6 ((tB 16 (decide (c.minute < d.minute))) :: K71m3) ak f fun bc al => ?_
   refine wf ?_
   obtain rfl := Option.some.inj m
   exact Exists.intro _ ⟨_, rfl, al.kp, f, (Heap.le_refl _)⟩
 ·
  rintro _ bj ⟨s, o, rfl, q, b, a9⟩
  refine wC (ab) q (fun p => ?_) (fun p => ?_)
  ·
   rw [p, cond_true] at H
   refine wp_seq (wp_region_from (Rk 0 1 [(tB 4 false)] q b fun bd am => ?_))
   refine wf (wp_ret ?_)
   obtain rfl := Option.some.inj H
   exact rt (.one (.c (.bool false))) am b rfl
  ·
   rw [p, cond_false] at H
   refine wp_skip (wp_seq (wp_region_from (Rk 0 4 ((tB 20 (c.kind.n == 2)) :: K71m3) q b fun ad x => ?_)))
   rcases Bool.eq_false_or_eq_true ((c.kind.n == 2)) with i | i
   ·
    rw [i, cond_true] at H
    have an : Kn 37 [(a, 0), (e, 0)] ((tB 20 true) :: K71m3) ad := (x.setB 20 true (by rfl) i).kp
    refine Rk 4 7 ((tB 27 (c.sg == d.number)) :: K71m3) an b fun ae y => ?_
    rcases Bool.eq_false_or_eq_true ((c.sg == d.number)) with j | j
    ·
     rw [j, cond_true] at H
     have ao : Kn 37 [(a, 0), (e, 0)] ((tB 27 true) :: K71m3) ae := (y.setB 27 true (by rfl) j).kp
     refine Rk 11 10 [(tB 4 true)] ao b fun be aq => ?_
     refine wf (wp_ret ?_)
     obtain rfl := Option.some.inj H
     exact rt (.one (.c (.bool true))) aq b rfl
    ·
     rw [j, cond_false] at H
     have ar : Kn 37 [(a, 0), (e, 0)] ((tB 27 false) :: K71m3) ae := (y.setB 27 false (by rfl) j).kp
     refine Rk 11 4 ((tB 31 (c.kind.n == 3)) :: K71m4) ar b fun af z => ?_
     rcases Bool.eq_false_or_eq_true ((c.kind.n == 3)) with k | k
     ·
      rw [k, cond_true] at H
      have au : Kn 37 [(a, 0), (e, 0)] ((tB 31 true) :: K71m4) af := (z.setB 31 true (by rfl) k).kp
      refine Rk 15 6 [(tB 4 (d.kind.n == 0))] au b fun bf av => ?_
      refine wf (wp_ret ?_)
      obtain rfl := Option.some.inj H
      exact rt (.one (.c (.bool (d.kind.n == 0)))) av b rfl
     ·
      rw [k, cond_false] at H
      have aw : Kn 37 [(a, 0), (e, 0)] ((tB 31 false) :: K71m4) af := (z.setB 31 false (by rfl) k).kp
      refine Rk 15 6 [(tB 4 false)] aw b fun bg ax => ?_
      refine wf (wp_ret ?_)
      obtain rfl := Option.some.inj H
      exact rt (.one (.c (.bool false))) ax b rfl
   ·
    rw [i, cond_false] at H
    have ay : Kn 37 [(a, 0), (e, 0)] ((tB 20 false) :: K71m3) ad := (x.setB 20 false (by rfl) i).kp
    refine Rk 4 11 ((tB 31 (c.kind.n == 3)) :: K71m4) ay b fun ag aa => ?_
    rcases Bool.eq_false_or_eq_true ((c.kind.n == 3)) with l | l
    ·
     rw [l, cond_true] at H
     have az : Kn 37 [(a, 0), (e, 0)] ((tB 31 true) :: K71m4) ag := (aa.setB 31 true (by rfl) l).kp
     refine Rk 15 6 [(tB 4 (d.kind.n == 0))] az b fun bh a0 => ?_
     refine wf (wp_ret ?_)
     obtain rfl := Option.some.inj H
     exact rt (.one (.c (.bool (d.kind.n == 0)))) a0 b rfl
    ·
     rw [l, cond_false] at H
     have a1 : Kn 37 [(a, 0), (e, 0)] ((tB 31 false) :: K71m4) ag := (aa.setB 31 false (by rfl) l).kp
     refine Rk 15 6 [(tB 4 false)] a1 b fun bi a2 => ?_
     refine wf (wp_ret ?_)
     obtain rfl := Option.some.inj H
     exact rt (.one (.c (.bool false))) a2 b rfl
abbrev K70c1 (c : Card) : List SC := [.int .i64 c.bus, .int .i64 c.number, .int .i64 c.minute, .int .u8 c.kind.n, .int .i64 c.part, .int .i64 c.sg]
set_option maxRecDepth 100000 in
set_option maxHeartbeats 4000000 in
theorem pit_Card_defect_ok (n : Nat) {h : Heap} {w : World} (hh : Has h w) (c : Card) {cs_c : List Value} (hx_c : rep h c cs_c) {r : Bool} (H : pit_Card_defect n c = some r) :
  Calls Try.prog 70 #[.agg cs_c.toArray] w (Ret (fun h v => v = .bool r) h w) := by
 obtain ⟨_, _, rfl, rfl, ⟨_, _, rfl, rfl, ⟨_, _, rfl, rfl, ⟨_, _, rfl, rfl, ⟨_, _, rfl, rfl, rfl⟩⟩⟩⟩⟩ := hx_c
 refine enter 11 [.agg (K70c1 c)] Try.func70 rfl rfl rfl rfl fun t hk => ?_
 have hm := Mem.begin h w hh
 unfold pit_Card_defect at H
 refine wp_seq (wp_region_from (wl fun K hK => ?_))
 refine wb (.agg (K70c1 c)) hk hm fun d o p (l : Kn 11 [(d, 0)] [(tP 1 0 0), (tA 0 (K70c1 c))] o) (a : Mem ⟨w, h, noX⟩ h [(d, 0)] [⟨(K70c1 c), some 99⟩] [] p) => hK _ _ ?_
 refine Rk 1 1 [(tP 1 0 0)] l a fun u m => ?_
 refine wf (wp_seq (wp_region_from (Rk 0 4 [(tB 6 (c.kind.n == 0)), (tP 1 0 0)] m a fun f e => ?_)))
 rcases Bool.eq_false_or_eq_true ((c.kind.n == 0)) with b | b
 ·
  rw [b, cond_true] at H
  have g : Kn 11 [(d, 0)] [(tB 6 true), (tP 1 0 0)] f := (e.setB 6 true (by rfl) b).kp
  refine Rk 4 5 [(tB 2 true)] g a fun q i => ?_
  refine wf (wp_ret ?_)
  obtain rfl := Option.some.inj H
  exact rt (.one (.c (.bool true))) i a rfl
 ·
  rw [b, cond_false] at H
  have j : Kn 11 [(d, 0)] [(tB 6 false), (tP 1 0 0)] f := (e.setB 6 false (by rfl) b).kp
  refine Rk 4 5 [(tB 2 (c.kind.n == 1))] j a fun s k => ?_
  refine wf (wp_ret ?_)
  obtain rfl := Option.some.inj H
  exact rt (.one (.c (.bool (c.kind.n == 1)))) k a rfl
abbrev K85m1 (s : List Int) (a_s : Option Addr) (c_s : Nat) (v : Int) : TM := [(tI 7 ((s.length : Nat) : Int)), (tS 0 a_s s.length c_s), (tI 1 v)]
set_option maxRecDepth 100000 in
set_option maxHeartbeats 4000000 in
theorem slices_Index_int_int_ok (n : Nat) {h : Heap} {w : World} (hh : Has h w) (s : List Int) {a_s : Option Addr} {c_s : Nat} (hr_s : RepS h a_s c_s s) (v : Int) {r : Int} (H : slices_Index_int_int n s v = some r) :
  Calls Try.prog 85 #[.slice a_s s.length c_s, .int .i64 v] w (Ret (fun h v => v = .int .i64 r) h w) := by
 refine enter 19 [.c (.slice a_s s.length c_s), .c (.int .i64 v)] Try.func85 rfl rfl rfl rfl fun t hk => ?_
 have hm := Mem.begin h w hh
 unfold slices_Index_int_int at H
 refine wp_seq (wp_region_from (Rk 0 1 [(tS 0 a_s s.length c_s), (tI 1 v)] hk hm fun az af => ?_))
 refine wf (wp_seq (wp_seq (wp_region_from (Rk 0 3 ((tI 8 0) :: (K85m1 s a_s c_s v)) af hm fun a3 aj => ?_))))
 refine wf ?_
 obtain ⟨aa, x, H⟩ := bnd H
 refine wp_mid' (fun a' w' => ∃ (ab : Unit) (q : Array Value) (f : Heap), a' = ⟨q, []⟩ ∧ Kn 19 [] [] q ∧ Mem ⟨w, h, noX⟩ f [] [] [] w' ∧ Heap.le h f ∧ aa = .go ab) ?_ ?_
 ·
  refine wp_block ?_
  refine wp_loop_n (fun au a' w' => ∃ (x_v10 : Int) (p : Array Value) (e : Heap), a' = ⟨p, []⟩ ∧ Kn 19 [] ((tI 8 x_v10) :: (K85m1 s a_s c_s v)) p ∧ Mem ⟨w, h, noX⟩ e [] [] [] w' ∧ Heap.le h e ∧ slices_Index_int_int_l1 au s v x_v10 = some aa) n ?_ ?_
  ·
   exact Exists.intro 0 ⟨_, _, rfl, aj.kp, hm, (Heap.le_refl _), x⟩
  ·
   rintro o _ aw ⟨x_v10, p, e, rfl, ae, b, m, a⟩
   clear x
   obtain _ | o := o
   ·
    rw [slices_Index_int_int_l1] at a; cases a
   rw [slices_Index_int_int_l1] at a
   replace hr_s := hr_s.mono m
   refine wp_seq (wp_region_from (Rk 0 1 ((tB 9 (decide (x_v10 < ((s.length : Nat) : Int)))) :: (tI 8 x_v10) :: (K85m1 s a_s c_s v)) ae b fun a0 k => ?_))
   refine wf (wp_seq (wC (decide (x_v10 < ((s.length : Nat) : Int))) k (fun g => ?_) (fun g => ?_)))
   ·
    rw [g, cond_true] at a
    refine wp_skip (wp_seq (wp_block (wp_seq (wp_region_from (Rk 0 2 ((tI 5 x_v10) :: (tI 8 x_v10) :: (K85m1 s a_s c_s v)) k b fun a1 ag => ?_)))))
    refine wf (wp_seq (wp_region_from (Rk 0 3 ((tI 13 x_v10) :: (tS 12 a_s s.length c_s) :: (tI 11 v) :: (tI 5 x_v10) :: (tI 8 x_v10) :: (K85m1 s a_s c_s v)) ag b fun a2 ah => ?_)))
    obtain ⟨x14, ex14, a⟩ := bnd a
    obtain ⟨ao, ap, ar⟩ := idx_some ex14
    obtain ⟨u, z, ax, ac, aq, ad⟩ := hr_s.get (by decide) ar
    obtain rfl := aq
    have d : Mem ⟨w, h, noX⟩ e [(u, z + (x_v10 : Int).toNat * 1)] [⟨[.int .i64 x14], none⟩] [] aw := b.addPlc (cs := [.int .i64 x14]) (fun j c hj => ad j _ (map_get hj)) rfl (by kernel_rfl) (by kernel_rfl)
    refine R_index 3 (x_v10) rfl rfl (rfl) rfl (by decide) ah (by rfl) (by rfl) (by rfl) ac (by rfl) ao ap (by kernel_rfl) fun av (ai : Kn 19 [(u, z + (x_v10 : Int).toNat * 1)] ((tP 14 0 0) :: (tI 13 x_v10) :: (tS 12 a_s s.length c_s) :: (tI 11 v) :: (tI 5 x_v10) :: (tI 8 x_v10) :: (K85m1 s a_s c_s v)) av) => ?_
    refine Rk 4 2 ((tB 16 (v == x14)) :: (tI 5 x_v10) :: (tI 8 x_v10) :: (K85m1 s a_s c_s v)) ai d fun a4 l => ?_
    refine wf (wC ((v == x14)) l (fun i => ?_) (fun i => ?_))
    ·
     rw [i, cond_true] at a
     refine wp_seq (wp_region_from (Rk 0 2 [(tI 4 x_v10)] l d fun a5 ak => ?_))
     refine wf (wp_ret ?_)
     obtain rfl := Option.some.inj a
     obtain rfl := Option.some.inj H
     exact rt (.one (.c (.int .i64 x_v10))) ak d rfl
    ·
     rw [i, cond_false] at a
     refine wp_skip (wp_region_from (Rk 0 2 ((tI 8 (IntKind.i64.wrap (x_v10 + 1))) :: (K85m1 s a_s c_s v)) l d fun a6 al => ?_))
     refine wf ?_
     exact Exists.intro o ⟨Nat.lt_succ_self _, Exists.intro (IntKind.i64.wrap (x_v10 + 1)) ⟨_, _, rfl, ((al.keep [8, 7, 0, 1] (by rfl)).cut 0 (by kernel_rfl)), (d.cutPl 0 (by kernel_rfl)), m, a⟩⟩
   ·
    rw [g, cond_false] at a
    refine wp_exit ?_
    obtain rfl := Option.some.inj a
    exact Exists.intro () ⟨_, _, rfl, k.kp, b, m, rfl⟩
 ·
  rintro _ a8 ⟨ab, q, f, rfl, am, y, ay, rfl⟩
  rw [Ex.bind_go] at H
  refine wp_seq (wp_region_from (Rk 0 1 [(tI 4 (-1))] am y fun a7 an => ?_))
  refine wf (wp_ret ?_)
  obtain rfl := Option.some.inj H
  exact rt (.one (.c (.int .i64 (-1)))) an y rfl
set_option maxRecDepth 100000 in
set_option maxHeartbeats 4000000 in
theorem slices_Contains_int_int_ok (n : Nat) {h : Heap} {w : World} (hh : Has h w) (s : List Int) {a_s : Option Addr} {c_s : Nat} (hr_s : RepS h a_s c_s s) (v : Int) {r : Bool} (H : slices_Contains_int_int n s v = some r) :
  Calls Try.prog 60 #[.slice a_s s.length c_s, .int .i64 v] w (Ret (fun h v => v = .bool r) h w) := by
 refine enter 9 [.c (.slice a_s s.length c_s), .c (.int .i64 v)] Try.func60 rfl rfl rfl rfl fun t hk => ?_
 have hm := Mem.begin h w hh
 unfold slices_Contains_int_int at H
 refine wp_seq (wp_region_from (Rk 0 1 [(tS 0 a_s s.length c_s), (tI 1 v)] hk hm fun l f => ?_))
 refine wf (wp_seq (wp_region_from (Rk 0 2 [(tI 6 v), (tS 5 a_s s.length c_s)] f hm fun o g => ?_)))
 obtain ⟨x7, ex7, H⟩ := bnd H
 refine wl fun K hK => ?_
 refine wc [.c (.slice a_s s.length c_s), .c (.int .i64 v)] g hm (slices_Index_int_int_ok n hm.has s hr_s v ex7) fun p j q b k a => ?_
 obtain rfl := b
 refine ⟨.one (.c (.int .i64 x7)), rfl, fun i (d : Kn 9 [] [(tI 7 x7), (tI 6 v), (tS 5 a_s s.length c_s)] i) => hK _ _ ?_⟩
 refine Rk 3 2 [(tB 4 (decide (x7 ≥ 0)))] d a fun m e => ?_
 refine wf (wp_ret ?_)
 obtain rfl := Option.some.inj H
 exact rt (.one (.c (.bool (decide (x7 ≥ 0))))) e a rfl
end Go.Proofs.Ytkbphdjemgibnaa
