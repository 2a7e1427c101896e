/- Each call computes its plain function. -/
import Derived.Test.YtkbphdjemgibnaaProg
import Derived.Test.YtkbphdjemgibnaaSsP0
import Derived.Test.YtkbphdjemgibnaaSsWP
import Derived.Test.YtkbphdjemgibnaaSsWQ
set_option linter.all false
namespace Go.Proofs.Ytkbphdjemgibnaa
open Go Go.RowKit
open Rep (rep)
open KRep (kv)
open VRep (rv)
abbrev K83c1 (i : Nat) (m : Option Addr) (b : Bx Book) (p : Nat) : List SC := [.map (some i), .slice m b.v.numbers.length p]
abbrev K83c2 (d : Card) : List SC := [.int .i64 d.bus, .int .i64 d.number, .int .i64 d.minute, .int .u8 d.kind.n, .int .i64 d.part, .int .i64 d.sg]
abbrev K83c3 (f : Card) : List SC := [.int .i64 f.bus, .int .i64 f.number, .int .i64 f.minute, .int .u8 f.kind.n, .int .i64 f.part, .int .i64 f.sg]
abbrev K83m4 (at_ : Int) : TM := [(tP 17 2 0), (tP 4 1 0), (tI 2 at_)]
set_option maxRecDepth 100000 in
set_option maxHeartbeats 4000000 in
theorem pit_book_open_ok (n : Nat) {h : Heap} {w : World} (hh : Has h w) (b : Bx Book) {b_b : Nat} (hb_b : BoxS h b_b b.v) (d : Card) {cs_d : List Value} (hx_d : rep h d cs_d) (at_ : Int) {Q : Bool → Prop} (H : pit_book_open n b d at_ Q) :
  Calls Try.prog 83 #[.pointer (some ⟨b_b, 0, none⟩), .agg cs_d.toArray, .int .i64 at_] w (Ret (fun h v => ∃ r, Q r ∧ v = .bool r) h w) := by
 obtain ⟨_, cb, bf⟩ := id hb_b
 obtain ⟨_, _, rfl, ⟨i, az, q, rfl, s, ad⟩, ⟨m, p, rfl, a7⟩⟩ := cb
 obtain ⟨_, _, rfl, rfl, ⟨_, _, rfl, rfl, ⟨_, _, rfl, rfl, ⟨_, _, rfl, rfl, ⟨_, _, rfl, rfl, rfl⟩⟩⟩⟩⟩ := hx_d
 refine enter' (e := [(b_b, 0)]) 31 [.c (.ptr 0 0), .agg (K83c2 d), .c (.int .i64 at_)] Try.func83 rfl rfl rfl rfl fun t hk => ?_
 have hm := Mem.begin h w hh
 replace hm := hm.addPlc (o := 0) (cs := [.map (some i), .slice m b.v.numbers.length p]) (fun j c hj => by rw [Nat.zero_add]; exact bf j _ (map_get hj)) rfl (by kernel_rfl) (by kernel_rfl)
 replace hm : Mem ⟨w, h, noX⟩ h [(b_b, 0)] [⟨(K83c1 i m b p), none⟩] [] w := hm
 unfold pit_book_open at H
 refine wp_seq (wp_region_from (wl fun K hK => ?_))
 refine wb (.agg (K83c2 d)) hk hm fun g cd cj (bl : Kn 31 [(b_b, 0), (g, 0)] [(tP 4 1 0), (tP 0 0 0), (tA 1 (K83c2 d)), (tI 2 at_)] cd) (aa : Mem ⟨w, h, noX⟩ h [(b_b, 0), (g, 0)] [⟨(K83c1 i m b p), none⟩, ⟨(K83c2 d), some 99⟩] [] cj) => hK _ _ ?_
 refine Rk 1 1 [(tP 4 1 0), (tP 0 0 0), (tI 2 at_)] bl aa fun cv bm => ?_
 refine wf (wp_seq (wp_seq (wp_region_from (Rk 0 4 [(tB 12 (decide (d.minute > at_))), (tP 4 1 0), (tP 0 0 0), (tI 2 at_)] bm aa fun cw ao => ?_))))
 refine wf (wC (decide (d.minute > at_)) ao (fun am => ?_) (fun am => ?_))
 ·
  rw [am, cond_true] at H
  refine wp_seq (wp_region_from (Rk 0 1 [(tB 6 false)] ao aa fun cx bn => ?_))
  refine wf (wp_ret ?_)
  exact rt (.one (.c (.bool false))) bn aa ⟨_, H, rfl⟩
 ·
  rw [am, cond_false] at H
  refine wp_skip (wp_seq (wp_seq (wp_region_from (Rk 0 4 [(16, .one (.c (.map (some i)))), (tP 4 1 0), (tI 2 at_)] ao aa fun cy bo => ?_))))
  refine wl fun K hK => ?_
  refine wp_rangeP (KT := 3) (E := 99) (l := b.v.cards.l) bo aa rfl rfl (by decide) (by rfl) (by kernel_rfl) s ad (by kernel_rfl) fun a a8 ck be bb (bp : Kn 31 [(b_b, 0), (g, 0), (a, 0)] [(tP 17 2 0), (16, .one (.c (.map (some i)))), (tP 4 1 0), (tI 2 at_)] a8) (b6 : Mem (Fr.put ⟨w, h, noX⟩ a (some (.mapIter (some i) q #[] q))) h [(b_b, 0), (g, 0), (a, 0)] [⟨(K83c1 i m b p), none⟩, ⟨(K83c2 d), some 99⟩, ⟨[], none⟩] [] ck) => hK _ _ ?_
  have bq : Kn 31 [(b_b, 0), (g, 0), (a, 0)] (K83m4 at_) a8 := bp.kp
  refine wf ?_
  obtain ⟨ay, bc, H⟩ := ptK (G := pit_book_open_l1 n d at_ Q b.v.cards.l) H
  refine wp_mid' (fun a' w' => ∃ (au : List (Int × Card)) (av : Array Nat) (aw : Array Value) (ae : Heap), a' = ⟨aw, []⟩ ∧ Kn 31 [(b_b, 0), (g, 0), (a, 0)] [] aw ∧ Mem (Fr.put ⟨w, h, noX⟩ a (some (.mapIter (some i) q av q))) ae [(b_b, 0), (g, 0), (a, 0)] [⟨(K83c1 i m b p), none⟩, ⟨(K83c2 d), some 99⟩, ⟨[], none⟩] [] w' ∧ Heap.le h ae ∧ IterS ae az av au ∧ ay au) ?_ ?_
  ·
   refine wp_block ?_
   refine wp_loop_n (fun cc a' w' => ∃ (x_v10 : List (Int × Card)) (x : Array Nat) (ax : Array Value) (u : Heap), a' = ⟨ax, []⟩ ∧ Kn 31 [(b_b, 0), (g, 0), (a, 0)] (K83m4 at_) ax ∧ Mem (Fr.put ⟨w, h, noX⟩ a (some (.mapIter (some i) q x q))) u [(b_b, 0), (g, 0), (a, 0)] [⟨(K83c1 i m b p), none⟩, ⟨(K83c2 d), some 99⟩, ⟨[], none⟩] [] w' ∧ Heap.le h u ∧ IterS u az x x_v10 ∧ pit_book_open_l1 cc d at_ Q x_v10 ay) n ?_ ?_
   ·
    exact Exists.intro b.v.cards.l ⟨#[], _, _, rfl, bq.kp, b6, (Heap.le_refl _), bb, H⟩
   ·
    rintro ah _ c5 ⟨x_v10, x, ax, u, rfl, br, aq, z, a0, k⟩
    obtain _ | ah := ah
    ·
     rw [pit_book_open_l1] at k; exact k.elim
    rw [pit_book_open_l1] at k
    replace ad := ad.mono z
    replace a7 := a7.mono z
    replace hb_b := hb_b.mono z
    replace s := z _ _ _ s
    refine wp_seq (wp_region_from (wl fun K hK => ?_))
    refine wp_nextP br aq rfl rfl (by decide) (by rfl) (by rfl) s ad a0 ?_ ?_
    ·
     intro b9 ce (bs : Kn 31 [(b_b, 0), (g, 0), (a, 0)] ((18, .tup [.c (.bool false)]) :: (K83m4 at_)) ce)
     replace k := k.1 b9
     refine hK _ _ ?_
     refine Rk 1 1 ((tB 19 false) :: (K83m4 at_)) bs aq fun cz a2 => ?_
     refine wf (wp_seq (wC false a2 (fun hb => ?_) (fun hb => ?_)))
     ·
      cases hb
     refine wp_exit ?_
     exact Exists.intro x_v10 ⟨x, _, _, rfl, a2.kp, aq, z, a0, k⟩
    ·
     intro ac ag f c3 ar b8 ca bg ai cf cl b2 (aj : Mem (Fr.put ⟨w, h, noX⟩ a (some (.mapIter (some i) q (Array.push x ac) q))) u [(b_b, 0), (g, 0), (a, 0)] [⟨(K83c1 i m b p), none⟩, ⟨(K83c2 d), some 99⟩, ⟨[], none⟩] [] cl)
     replace k := k.2 ag f ar b8
     obtain ⟨_, rfl, ⟨_, _, rfl, rfl, ⟨_, _, rfl, rfl, ⟨_, _, rfl, rfl, ⟨_, _, rfl, rfl, ⟨_, _, rfl, rfl, rfl⟩⟩⟩⟩⟩⟩ := ca
     have bt : Kn 31 [(b_b, 0), (g, 0), (a, 0)] ((18, .tup [.c (.bool true), .c (.int .i64 ag), .agg (K83c3 f)]) :: (K83m4 at_)) cf := b2 (.tup [.c (.bool true), .c (.int .i64 ag), .agg (K83c3 f)]) rfl
     refine hK _ _ ?_
     refine Rk 1 1 ((tB 19 true) :: (K83m4 at_)) bt aj fun c0 a3 => ?_
     refine wf (wp_seq (wC true a3 (fun hb => ?_) (fun hb => ?_)))
     rotate_left
     ·
      cases hb
     refine wp_skip (wp_block (wp_seq (wp_region_from (wl fun K hK => ?_))))
     refine wp_entryP a3 aj rfl rfl (by decide) (by rfl) (by rfl) s ad bg fun cg b3 => ?_
     have bu : Kn 31 [(b_b, 0), (g, 0), (a, 0)] ((20, .tup [.c (.int .i64 ag), .agg (K83c3 f)]) :: (tB 19 true) :: (K83m4 at_)) cg := b3 (.tup [.c (.int .i64 ag), .agg (K83c3 f)]) rfl
     refine hK _ _ ?_
     refine Rk 1 1 ((tA 21 (K83c3 f)) :: (K83m4 at_)) bu aj fun c1 bv => ?_
     refine wl fun K hK => ?_
     refine wa [.int .i64 0, .int .i64 0, .int .i64 0, .int .u8 0, .int .i64 0, .int .i64 0] bv aj fun y a9 cm (bw : Kn 31 [(b_b, 0), (g, 0), (a, 0), (y, 0)] ((tP 8 3 0) :: (tA 21 (K83c3 f)) :: (K83m4 at_)) a9) (b7 : Mem (Fr.put ⟨w, h, noX⟩ a (some (.mapIter (some i) q (Array.push x ac) q))) u [(b_b, 0), (g, 0), (a, 0), (y, 0)] [⟨(K83c1 i m b p), none⟩, ⟨(K83c2 d), some 99⟩, ⟨[], none⟩, ⟨[.int .i64 0, .int .i64 0, .int .i64 0, .int .u8 0, .int .i64 0, .int .i64 0], some 99⟩] [] cm) => hK _ _ ?_
     refine wl fun K hK => ?_
     refine wst 3 0 (.agg (K83c3 f)) (K83c3 f) bw b7 fun cn bx (ab : Mem (Fr.put ⟨w, h, noX⟩ a (some (.mapIter (some i) q (Array.push x ac) q))) u [(b_b, 0), (g, 0), (a, 0), (y, 0)] [⟨(K83c1 i m b p), none⟩, ⟨(K83c2 d), some 99⟩, ⟨[], none⟩, ⟨(K83c3 f), some 99⟩] [] cn) => hK _ _ ?_
     have bz : Kn 31 [(b_b, 0), (g, 0), (a, 0), (y, 0)] ((tP 8 3 0) :: (K83m4 at_)) a9 := bx.kp
     refine wf (wp_seq (wp_region_from (Rk 0 5 ((tB 26 (decide (f.minute ≤ at_))) :: (tP 8 3 0) :: (K83m4 at_)) bz ab fun ba a4 => ?_)))
     rcases Bool.eq_false_or_eq_true (decide (f.minute ≤ at_)) with af | af
     ·
      rw [af, cond_true] at k
      have b0 : Kn 31 [(b_b, 0), (g, 0), (a, 0), (y, 0)] ((tB 26 true) :: (tP 8 3 0) :: (K83m4 at_)) ba := (a4.setB 26 true (by rfl) af).kp
      refine Rk 5 2 ((tA 28 (K83c2 d)) :: (tA 27 (K83c3 f)) :: (tB 26 true) :: (K83m4 at_)) b0 ab fun c2 a5 => ?_
      obtain ⟨x29, ex29, k⟩ := k
      refine wpFrom_loud _ rfl (wantedS_sound a5 (by kernel_rfl)) fun K hK => ?_
      refine wc [.agg (K83c3 f), .agg (K83c2 d)] a5 ab (pit_Card_mended_ok ah ab.has f ((rep_pair rep_int (rep_pair rep_int (rep_pair rep_int (rep_pair rep_ik (rep_pair rep_int rep_int))))) : rep u f _) d ((rep_pair rep_int (rep_pair rep_int (rep_pair rep_int (rep_pair rep_ik (rep_pair rep_int rep_int))))) : rep u d _) ex29) fun c4 cp c6 bd ap ak => ?_
      replace ai := ai.mono ap
      replace s := ap _ _ _ s
      obtain rfl := bd
      refine ⟨.one (.c (.bool x29)), rfl, fun ch (b1 : Kn 31 [(b_b, 0), (g, 0), (a, 0), (y, 0)] ((tB 29 x29) :: (tA 28 (K83c2 d)) :: (tA 27 (K83c3 f)) :: (tB 26 true) :: (K83m4 at_)) ch) => hK _ _ ?_⟩
      refine Rk 8 1 ((tB 30 x29) :: (K83m4 at_)) b1 ak fun cq an => ?_
      refine wf (wC (x29) an (fun al => ?_) (fun al => ?_))
      ·
       rw [al, cond_true] at k
       refine wp_seq (wp_region_from (Rk 0 1 [(tB 6 false)] an ak fun cr bh => ?_))
       refine wf (wp_ret ?_)
       exact rt (.one (.c (.bool false))) bh ak ⟨_, k, rfl⟩
      ·
       rw [al, cond_false] at k
       refine wp_skip ?_
       exact Exists.intro ah ⟨Nat.lt_succ_self _, Exists.intro ar ⟨(Array.push x ac), _, _, rfl, ((an.keep [17, 4, 2] (by rfl)).cut 3 (by kernel_rfl)), (ak.cutPl 3 (by kernel_rfl)), (Heap.le_trans z ap), ai, k⟩⟩
     ·
      rw [af, cond_false] at k
      have bi : Kn 31 [(b_b, 0), (g, 0), (a, 0), (y, 0)] ((tB 26 false) :: (tP 8 3 0) :: (K83m4 at_)) ba := (a4.setB 26 false (by rfl) af).kp
      refine Rk 5 4 ((tB 30 false) :: (K83m4 at_)) bi ab fun ct a1 => ?_
      refine wf (wC false a1 (fun hb => ?_) (fun hb => ?_))
      ·
       cases hb
      refine wp_skip ?_
      exact Exists.intro ah ⟨Nat.lt_succ_self _, Exists.intro ar ⟨(Array.push x ac), _, _, rfl, ((a1.keep [17, 4, 2] (by rfl)).cut 3 (by kernel_rfl)), (ab.cutPl 3 (by kernel_rfl)), z, ai, k⟩⟩
  ·
   rintro _ ci ⟨au, av, aw, ae, rfl, bj, b5, b4, co, H⟩
   rw [bc] at H
   replace s := b4 _ _ _ s
   have a6 : Mem ⟨w, h, noX⟩ ae [(b_b, 0), (g, 0), (a, 0)] [⟨(K83c1 i m b p), none⟩, ⟨(K83c2 d), some 99⟩, ⟨[], none⟩] [] ci := Mem.dropX be b5
   refine wp_seq (wp_region_from (Rk 0 1 [(tB 6 true)] bj a6 fun cu bk => ?_))
   refine wf (wp_ret ?_)
   exact rt (.one (.c (.bool true))) bk a6 ⟨_, H, rfl⟩
theorem pit_book_open_l1_of : ∀ (n : Nat) (rem : List (Int × Card)) (d : Card) (at_ : Int) (Q : Bool → Prop) (K : List (Int × Card) → Prop), rem.length < n →
    (rem.all (fun p => !(decide (p.2.minute ≤ at_) && mendB p.2 d)) = true → K []) → (rem.all (fun p => !(decide (p.2.minute ≤ at_) && mendB p.2 d)) = false → Q false) → pit_book_open_l1 n d at_ Q rem K
  | 0, _, _, _, _, _, h, _, _ => by omega
  | n + 1, rem, d, at_, Q, K, h, h1, h2 => by
    rw [pit_book_open_l1]
    refine ⟨fun h0 => by subst h0; exact h1 rfl, fun k x rem' hp => ?_⟩
    have hl := hp.length_eq
    simp only [List.length_cons] at hl
    have ha : rem.all (fun p => !(decide (p.2.minute ≤ at_) && mendB p.2 d)) = (!(decide (x.minute ≤ at_) && mendB x d) && rem'.all (fun p => !(decide (p.2.minute ≤ at_) && mendB p.2 d))) := by
      rw [hp.all_eq]; rfl
    rw [ha] at h1 h2
    have key : (decide (x.minute ≤ at_) && mendB x d) = false → pit_book_open_l1 n d at_ Q rem' K := fun he => by
      rw [he] at h1 h2
      exact pit_book_open_l1_of n rem' d at_ Q K (by omega) (by simpa using h1) (by simpa using h2)
    cases hm : decide (x.minute ≤ at_) with
    | false => exact key (by rw [hm]; rfl)
    | true =>
      refine ⟨_, pit_Card_mended_eq n x d, ?_⟩
      cases hb : mendB x d with
      | true => exact h2 (by rw [hm, hb]; rfl)
      | false => exact key (by rw [hm, hb]; rfl)
theorem pit_book_open_of {n : Nat} {b : Bx Book} {d : Card} {at_ : Int} {r : Bool} (H : pit_book_openL n b d at_ = some r) : pit_book_open n b d at_ (fun x => x = r) := by
  unfold pit_book_openL at H
  split at H
  · rename_i hb
    obtain rfl := Option.some.inj H
    unfold pit_book_open openB
    cases hd : decide (d.minute > at_) with
    | true => rfl
    | false => exact pit_book_open_l1_of n _ d at_ _ _ hb (fun h => by simp only [h]; rfl) (fun h => by simp only [h]; rfl)
  · cases H
theorem pit_book_openL_ok (n : Nat) {h : Heap} {w : World} (hh : Has h w) (b : Bx Book) {b_b : Nat} (hb_b : BoxS h b_b b.v) (d : Card) {cs_d : List Value} (hx_d : rep h d cs_d) (at_ : Int) {r : Bool} (H : pit_book_openL n b d at_ = some r) :
    Calls Try.prog 83 #[.pointer (some ⟨b_b, 0, none⟩), .agg cs_d.toArray, .int .i64 at_] w (Ret (fun h v => v = .bool r) h w) :=
  (pit_book_open_ok n hh b hb_b d hx_d at_ (pit_book_open_of H)).mono fun en w' ⟨v, h', h1, h3, h4, h5, h2⟩ => ⟨v, h', h1, h3, h4, h5, by
    obtain ⟨q, hq, hv⟩ := h2
    rw [hv, hq]⟩
abbrev K98c1 (u : Nat) (a : Option Addr) (q0 : Bx Book) (d : Nat) : List SC := [.map (some u), .slice a q0.v.numbers.length d]
abbrev K98e2 (f b_q0 b_q1 m p : Nat) (x_v10 : Int) (q : Nat) : Env := [(f, 0), (b_q0, 0), (b_q1, 0), (m, p + (x_v10 : Int).toNat * 1), (q, 0)]
abbrev K98c3 (x21 : (Card × Bool)) : List SC := [.int .i64 x21.1.bus, .int .i64 x21.1.number, .int .i64 x21.1.minute, .int .u8 x21.1.kind.n, .int .i64 x21.1.part, .int .i64 x21.1.sg]
set_option maxRecDepth 100000 in
set_option maxHeartbeats 4000000 in
theorem pit_book_defects_1_it (n : Nat) {h : Heap} {w : World} {σ : Type} {J : σ → Heap → World → Prop} (hJ : JOk J) {l : Nat} (yield_ : σ → Card → Option (σ × Bool)) (hy : ∀ (s : σ) (x0 : Card) (s' : σ) (b : Bool) (h : Heap) (w : World), J s h w → ∀ (cs0 : List Value) (_ : rep h x0 cs0), yield_ s x0 = some (s', b) → Yields Try.prog l #[.agg cs0.toArray] w (fun c w' => c = b ∧ ∃ h', Heap.le h h' ∧ J s' h' w')) (s : σ) (hw : J s h w) (q0 : Bx Book) {b_q0 : Nat} (hb_q0 : BoxS h b_q0 q0) (q1 : Int) {b_q1 : Nat} (hb_q1 : BoxS h b_q1 q1) {r : σ} (H : pit_book_defects_1 n yield_ s q0 q1 = some r) :
  Calls Try.prog 98 #[.func (.yield l) #[] #[], .pointer (some ⟨b_q0, 0, none⟩), .pointer (some ⟨b_q1, 0, none⟩)] w (fun en w' => en = .returned (.tuple #[]) ∧ ∃ h', Heap.le h h' ∧ J r h' w') := by
 obtain ⟨_, hx_q0, hc_q0⟩ := id hb_q0
 obtain ⟨f, rfl, ah⟩ := hx_q0
 obtain ⟨_, cg, bq⟩ := id ah
 obtain ⟨_, _, rfl, ⟨u, cw, cu, rfl, x, ag⟩, ⟨a, d, rfl, ak⟩⟩ := cg
 obtain ⟨_, hx_q1, hc_q1⟩ := id hb_q1
 obtain rfl := hx_q1
 have hh := hJ.has _ _ _ hw
 refine enter' (e := [(f, 0), (b_q0, 0), (b_q1, 0)]) 37 [.c (.func (.yield l) #[] #[]), .c (.ptr 1 0), .c (.ptr 2 0)] Try.func98 rfl rfl rfl rfl fun t hk => ?_
 have hm := Mem.begin h w hh
 replace hm := hm.addPlc (o := 0) (cs := [.map (some u), .slice a q0.v.numbers.length d]) (fun j c hj => by rw [Nat.zero_add]; exact bq j _ (map_get hj)) rfl (by kernel_rfl) (by kernel_rfl)
 replace hm := hm.addPlc (o := 0) (cs := [.ptr 0 0]) (fun j c hj => by rw [Nat.zero_add]; exact hc_q0 j _ (map_get (e := [(f, 0)]) hj)) rfl (by kernel_rfl) (by kernel_rfl)
 replace hm := hm.addPlc (o := 0) (cs := [.int .i64 q1]) (fun j c hj => by rw [Nat.zero_add]; exact hc_q1 j _ (map_get hj)) rfl (by kernel_rfl) (by kernel_rfl)
 replace hm : Mem ⟨w, h, noX⟩ h [(f, 0), (b_q0, 0), (b_q1, 0)] [⟨(K98c1 u a q0 d), none⟩, ⟨[.ptr 0 0], none⟩, ⟨[.int .i64 q1], none⟩] [] w := hm
 unfold pit_book_defects_1 at H
 refine wp_seq (wp_region_from (Rk 0 6 [(tI 12 0), (tI 11 ((q0.v.numbers.length : Nat) : Int)), (tS 10 a q0.v.numbers.length d), (0, .one (.c (.func (.yield l) #[] #[]))), (tP 1 1 0), (tP 2 2 0)] hk hm fun c7 b0 => ?_))
 refine wf ?_
 obtain ⟨bi, a7, H⟩ := bnd H
 refine wp_mid' (fun a' w' => ∃ (av : σ) (a6 : World) (az : Heap) (a3 : Array Value) (am : Heap), a' = ⟨a3, []⟩ ∧ Kn 37 [(f, 0), (b_q0, 0), (b_q1, 0)] [] a3 ∧ Mem ⟨a6, az, noX⟩ am [(f, 0), (b_q0, 0), (b_q1, 0)] [⟨(K98c1 u a q0 d), none⟩, ⟨[.ptr 0 0], none⟩, ⟨[.int .i64 q1], none⟩] [] w' ∧ Heap.le h am ∧ J av az a6 ∧ bi = .go av) ?_ ?_
 ·
  refine wp_block ?_
  refine wp_loop_n (fun cj a' w' => ∃ (x_v10 : Int) (x_v11 : σ) (aa : World) (z : Heap) (a4 : Array Value) (ac : Heap), a' = ⟨a4, []⟩ ∧ Kn 37 [(f, 0), (b_q0, 0), (b_q1, 0)] [(tI 12 x_v10), (tI 11 ((q0.v.numbers.length : Nat) : Int)), (tS 10 a q0.v.numbers.length d), (0, .one (.c (.func (.yield l) #[] #[]))), (tP 1 1 0), (tP 2 2 0)] a4 ∧ Mem ⟨aa, z, noX⟩ ac [(f, 0), (b_q0, 0), (b_q1, 0)] [⟨(K98c1 u a q0 d), none⟩, ⟨[.ptr 0 0], none⟩, ⟨[.int .i64 q1], none⟩] [] w' ∧ Heap.le h ac ∧ J x_v11 z aa ∧ pit_book_defects_1_l1 cj yield_ q0 q1 x_v10 x_v11 = some bi) n ?_ ?_
  ·
   exact Exists.intro 0 ⟨s, w, h, _, _, rfl, b0.kp, hm, (Heap.le_refl _), hw, a7⟩
  ·
   rintro af _ co ⟨x_v10, x_v11, aa, z, a4, ac, rfl, b1, a2, y, al, g⟩
   clear a7
   obtain _ | af := af
   ·
    rw [pit_book_defects_1_l1] at g; cases g
   rw [pit_book_defects_1_l1] at g
   replace ag := ag.mono y
   replace ak := ak.mono y
   replace ah := ah.mono y
   replace hb_q0 := hb_q0.mono y
   replace hb_q1 := hb_q1.mono y
   replace x := y _ _ _ x
   refine wp_seq (wp_region_from (Rk 0 1 [(tB 13 (decide (x_v10 < ((q0.v.numbers.length : Nat) : Int)))), (tI 12 x_v10), (tI 11 ((q0.v.numbers.length : Nat) : Int)), (tS 10 a q0.v.numbers.length d), (0, .one (.c (.func (.yield l) #[] #[]))), (tP 1 1 0), (tP 2 2 0)] b1 a2 fun c8 a0 => ?_))
   refine wf (wp_seq (wC (decide (x_v10 < ((q0.v.numbers.length : Nat) : Int))) a0 (fun ay => ?_) (fun ay => ?_)))
   ·
    rw [ay, cond_true] at g
    refine wp_skip (wp_seq (wp_block (wp_seq (wp_region_from ?_))))
    obtain ⟨x14, ex14, g⟩ := bnd g
    obtain ⟨ce, cf, ci⟩ := idx_some ex14
    obtain ⟨m, p, cv, bp, ch, br⟩ := ak.get (by decide) ci
    obtain rfl := ch
    have ar : Mem ⟨aa, z, noX⟩ ac [(f, 0), (b_q0, 0), (b_q1, 0), (m, p + (x_v10 : Int).toNat * 1)] [⟨(K98c1 u a q0 d), none⟩, ⟨[.ptr 0 0], none⟩, ⟨[.int .i64 q1], none⟩, ⟨[.int .i64 x14], none⟩] [] co := a2.addPlc (cs := [.int .i64 x14]) (fun j c hj => br j _ (map_get hj)) rfl (by kernel_rfl) (by kernel_rfl)
    refine R_index 0 (x_v10) rfl rfl (rfl) rfl (by decide) a0 (by rfl) (by rfl) (by rfl) bp (by rfl) ce cf (by kernel_rfl) fun ck (b2 : Kn 37 [(f, 0), (b_q0, 0), (b_q1, 0), (m, p + (x_v10 : Int).toNat * 1)] [(tP 14 3 0), (tB 13 (decide (x_v10 < ((q0.v.numbers.length : Nat) : Int)))), (tI 12 x_v10), (tI 11 ((q0.v.numbers.length : Nat) : Int)), (tS 10 a q0.v.numbers.length d), (0, .one (.c (.func (.yield l) #[] #[]))), (tP 1 1 0), (tP 2 2 0)] ck) => ?_
    refine Rk 1 2 [(tI 5 x14), (tI 12 x_v10), (tI 11 ((q0.v.numbers.length : Nat) : Int)), (tS 10 a q0.v.numbers.length d), (0, .one (.c (.func (.yield l) #[] #[]))), (tP 1 1 0), (tP 2 2 0)] b2 ar fun c9 b3 => ?_
    refine wf (wp_seq (wp_region_from (Rk 0 5 [(tI 20 x14), (19, .one (.c (.map (some u)))), (tI 12 x_v10), (tI 11 ((q0.v.numbers.length : Nat) : Int)), (tS 10 a q0.v.numbers.length d), (0, .one (.c (.func (.yield l) #[] #[]))), (tP 1 1 0), (tP 2 2 0)] b3 ar fun da b4 => ?_)))
    obtain ⟨x21, ex21, g⟩ := bnd g
    refine wl fun K hK => ?_
    refine wp_lookup (KT := 3) (E := 99) (k := (x14 : Int)) ((Card.mk 0 0 0 (IK.mk 0) 0 0) : Card) (.c (.int .i64 x14)) b4 rfl rfl (by decide) (by rfl) (by rfl) (by kernel_rfl) (KL.int (by kernel_rfl)) (ar.has.map x) ag rfl (by kernel_rfl) ⟨_, rfl, ((rep_pair rep_int (rep_pair rep_int (rep_pair rep_int (rep_pair rep_ik (rep_pair rep_int rep_int))))) : rep ac ((Card.mk 0 0 0 (IK.mk 0) 0 0) : Card) _)⟩ fun dd bh => ?_
    rw [Option.some.inj ex21] at bh ⊢
    obtain ⟨_, rfl, ⟨_, _, rfl, rfl, ⟨_, _, rfl, rfl, ⟨_, _, rfl, rfl, ⟨_, _, rfl, rfl, ⟨_, _, rfl, rfl, rfl⟩⟩⟩⟩⟩⟩ := bh
    refine ⟨.one (.agg (K98c3 x21)), rfl, fun cl (b5 : Kn 37 [(f, 0), (b_q0, 0), (b_q1, 0), (m, p + (x_v10 : Int).toNat * 1)] [(tA 21 (K98c3 x21)), (tI 20 x14), (19, .one (.c (.map (some u)))), (tI 12 x_v10), (tI 11 ((q0.v.numbers.length : Nat) : Int)), (tS 10 a q0.v.numbers.length d), (0, .one (.c (.func (.yield l) #[] #[]))), (tP 1 1 0), (tP 2 2 0)] cl) => hK _ _ ?_⟩
    refine wl fun K hK => ?_
    refine wa [.int .i64 0, .int .i64 0, .int .i64 0, .int .u8 0, .int .i64 0, .int .i64 0] b5 ar fun q bj cp (b6 : Kn 37 (K98e2 f b_q0 b_q1 m p x_v10 q) [(tP 6 4 0), (tA 21 (K98c3 x21)), (tI 20 x14), (19, .one (.c (.map (some u)))), (tI 12 x_v10), (tI 11 ((q0.v.numbers.length : Nat) : Int)), (tS 10 a q0.v.numbers.length d), (0, .one (.c (.func (.yield l) #[] #[]))), (tP 1 1 0), (tP 2 2 0)] bj) (cd : Mem ⟨aa, z, noX⟩ ac (K98e2 f b_q0 b_q1 m p x_v10 q) [⟨(K98c1 u a q0 d), none⟩, ⟨[.ptr 0 0], none⟩, ⟨[.int .i64 q1], none⟩, ⟨[.int .i64 x14], none⟩, ⟨[.int .i64 0, .int .i64 0, .int .i64 0, .int .u8 0, .int .i64 0, .int .i64 0], some 99⟩] [] cp) => hK _ _ ?_
    refine wl fun K hK => ?_
    refine wst 4 0 (.agg (K98c3 x21)) (K98c3 x21) b6 cd fun cq b7 (ad : Mem ⟨aa, z, noX⟩ ac (K98e2 f b_q0 b_q1 m p x_v10 q) [⟨(K98c1 u a q0 d), none⟩, ⟨[.ptr 0 0], none⟩, ⟨[.int .i64 q1], none⟩, ⟨[.int .i64 x14], none⟩, ⟨(K98c3 x21), some 99⟩] [] cq) => hK _ _ ?_
    have b8 : Kn 37 (K98e2 f b_q0 b_q1 m p x_v10 q) [(tP 6 4 0), (tI 12 x_v10), (tI 11 ((q0.v.numbers.length : Nat) : Int)), (tS 10 a q0.v.numbers.length d), (0, .one (.c (.func (.yield l) #[] #[]))), (tP 1 1 0), (tP 2 2 0)] bj := b7.kp
    refine wf (wp_seq (wp_region_fromI ?_))
    refine RI_runk 0 5 [26, 6, 12, 11, 10, 0, 1, 2] [(tB 26 (x21.1.bus == q1)), (tP 6 4 0), (tI 12 x_v10), (tI 11 ((q0.v.numbers.length : Nat) : Int)), (tS 10 a q0.v.numbers.length d), (0, .one (.c (.func (.yield l) #[] #[]))), (tP 1 1 0), (tP 2 2 0)] b8 ad.plOk (by kernel_rfl) fun bk bc => ?_
    rcases Bool.eq_false_or_eq_true ((x21.1.bus == q1)) with ai | ai
    ·
     rw [ai, cond_true] at g
     have b9 : Kn 37 (K98e2 f b_q0 b_q1 m p x_v10 q) [(tB 26 true), (tP 6 4 0), (tI 12 x_v10), (tI 11 ((q0.v.numbers.length : Nat) : Int)), (tS 10 a q0.v.numbers.length d), (0, .one (.c (.func (.yield l) #[] #[]))), (tP 1 1 0), (tP 2 2 0)] bk := (bc.setB 26 true (by rfl) ai).kp
     refine RI_runk 5 1 [27, 26, 6, 12, 11, 10, 0, 1, 2] [(tA 27 (K98c3 x21)), (tB 26 true), (tP 6 4 0), (tI 12 x_v10), (tI 11 ((q0.v.numbers.length : Nat) : Int)), (tS 10 a q0.v.numbers.length d), (0, .one (.c (.func (.yield l) #[] #[]))), (tP 1 1 0), (tP 2 2 0)] b9 ad.plOk (by kernel_rfl) fun db bd => ?_
     obtain ⟨x28, ex28, g⟩ := bnd g
     refine wpFromI_loud _ rfl (wantedS_sound bd (by kernel_rfl)) fun K hK => ?_
     refine wc [.agg (K98c3 x21)] bd ad (pit_Card_defect_ok af ad.has x21.1 ((rep_pair rep_int (rep_pair rep_int (rep_pair rep_int (rep_pair rep_ik (rep_pair rep_int rep_int))))) : rep ac x21.1 _) ex28) fun de cx cr bn ab ae => ?_
     replace ag := ag.mono ab
     replace ak := ak.mono ab
     replace ah := ah.mono ab
     replace hb_q0 := hb_q0.mono ab
     replace hb_q1 := hb_q1.mono ab
     replace x := ab _ _ _ x
     obtain rfl := bn
     refine ⟨.one (.c (.bool x28)), rfl, fun cm (ca : Kn 37 (K98e2 f b_q0 b_q1 m p x_v10 q) [(tB 28 x28), (tA 27 (K98c3 x21)), (tB 26 true), (tP 6 4 0), (tI 12 x_v10), (tI 11 ((q0.v.numbers.length : Nat) : Int)), (tS 10 a q0.v.numbers.length d), (0, .one (.c (.func (.yield l) #[] #[]))), (tP 1 1 0), (tP 2 2 0)] cm) => hK _ _ ?_⟩
     refine RI_runk 7 2 [30, 6, 12, 11, 10, 0, 1, 2] [(tB 30 x28), (tP 6 4 0), (tI 12 x_v10), (tI 11 ((q0.v.numbers.length : Nat) : Int)), (tS 10 a q0.v.numbers.length d), (0, .one (.c (.func (.yield l) #[] #[]))), (tP 1 1 0), (tP 2 2 0)] ca ae.plOk (by kernel_rfl) fun bl be => ?_
     rcases Bool.eq_false_or_eq_true (x28) with aj | aj
     ·
      rw [aj, cond_true] at g
      have cb : Kn 37 (K98e2 f b_q0 b_q1 m p x_v10 q) [(tB 30 true), (tP 6 4 0), (tI 12 x_v10), (tI 11 ((q0.v.numbers.length : Nat) : Int)), (tS 10 a q0.v.numbers.length d), (0, .one (.c (.func (.yield l) #[] #[]))), (tP 1 1 0), (tP 2 2 0)] bl := (be.setB 30 true (by rfl) aj).kp
      refine RI_runk 9 2 [32, 31, 30, 12, 11, 10, 0, 1, 2] [(tA 32 (K98c3 x21)), (31, .one (.c (.func (.yield l) #[] #[]))), (tB 30 true), (tI 12 x_v10), (tI 11 ((q0.v.numbers.length : Nat) : Int)), (tS 10 a q0.v.numbers.length d), (0, .one (.c (.func (.yield l) #[] #[]))), (tP 1 1 0), (tP 2 2 0)] cb ae.plOk (by kernel_rfl) fun dc bf => ?_
      obtain ⟨an, a1, a8, au⟩ := ae.settlePlc (i := 4) rfl
      replace x := a1 _ _ _ x
      replace au : Mem ⟨aa, z, noX⟩ an (K98e2 f b_q0 b_q1 m p x_v10 q) [⟨(K98c1 u a q0 d), none⟩, ⟨[.ptr 0 0], none⟩, ⟨[.int .i64 q1], none⟩, ⟨[.int .i64 x14], none⟩, ⟨(K98c3 x21), none⟩] [] cr := au
      have cy : BoxS an q (x21.1 : Card) := BoxS.of (e := (K98e2 f b_q0 b_q1 m p x_v10 q)) (cs := (K98c3 x21)) ((rep_pair rep_int (rep_pair rep_int (rep_pair rep_int (rep_pair rep_ik (rep_pair rep_int rep_int))))) : rep an (x21.1 : Card) _) rfl a8
      have cz : CellsAt an q [.int .i64 x21.1.bus, .int .i64 x21.1.number, .int .i64 x21.1.minute, .int .u8 x21.1.kind.n, .int .i64 x21.1.part, .int .i64 x21.1.sg] := CellsAt.of (e := [(f, 0), (b_q0, 0), (b_q1, 0), (m, p + (x_v10 : Int).toNat * 1), (q, 0)]) (cs := [.int .i64 x21.1.bus, .int .i64 x21.1.number, .int .i64 x21.1.minute, .int .u8 x21.1.kind.n, .int .i64 x21.1.part, .int .i64 x21.1.sg]) rfl a8
      obtain ⟨x33, ex33, g⟩ := bnd g
      refine RI_yield 11 [.agg (K98c3 x21)] _ bf rfl rfl (wantedS_sound bf (by kernel_rfl)) rfl (by decide) (by rfl) (by rfl) rfl (hy _ x21.1 _ _ _ _ (au.J hJ al) _ (rep_pair rep_int (rep_pair rep_int (rep_pair rep_int (rep_pair rep_ik (rep_pair rep_int rep_int))))) ex33) fun ct a5 bo cn bs => ?_
      obtain ⟨rfl, ao, ap, aw⟩ := bo
      replace x := ap _ _ _ x
      have bt : Kn 37 (K98e2 f b_q0 b_q1 m p x_v10 q) [(tB 33 x33.2), (tA 32 (K98c3 x21)), (31, .one (.c (.func (.yield l) #[] #[]))), (tB 30 true), (tI 12 x_v10), (tI 11 ((q0.v.numbers.length : Nat) : Int)), (tS 10 a q0.v.numbers.length d), (0, .one (.c (.func (.yield l) #[] #[]))), (tP 1 1 0), (tP 2 2 0)] cn := bs.kp
      have aq : Mem ⟨a5, ao, noX⟩ ao (K98e2 f b_q0 b_q1 m p x_v10 q) [⟨(K98c1 u a q0 d), none⟩, ⟨[.ptr 0 0], none⟩, ⟨[.int .i64 q1], none⟩, ⟨[.int .i64 x14], none⟩, ⟨(K98c3 x21), none⟩] [] a5 := au.rebase ap (hJ.has _ _ _ aw) (by kernel_rfl)
      refine RI_runk 12 2 [35, 12, 11, 10, 0, 1, 2] [(tB 35 (!x33.2)), (tI 12 x_v10), (tI 11 ((q0.v.numbers.length : Nat) : Int)), (tS 10 a q0.v.numbers.length d), (0, .one (.c (.func (.yield l) #[] #[]))), (tP 1 1 0), (tP 2 2 0)] bt aq.plOk (by kernel_rfl) fun c1 a9 => ?_
      refine wpFromI_end (by decide) (wC ((!x33.2)) a9 (fun ax => ?_) (fun ax => ?_))
      ·
       rw [ax, cond_true] at g
       refine wp_ret ?_
       obtain rfl := Option.some.inj g
       obtain rfl := Option.some.inj H
       exact it_ret (J := fun w' => ∃ h', Heap.le h h' ∧ J x33.1 h' w') rfl ⟨ao, (Heap.le_trans y (Heap.le_trans ab (Heap.le_trans a1 ap))), aq.J hJ aw⟩
      ·
       rw [ax, cond_false] at g
       refine wp_skip (wp_region_from (Rk 0 2 [(tI 12 (IntKind.i64.wrap (x_v10 + 1))), (tI 11 ((q0.v.numbers.length : Nat) : Int)), (tS 10 a q0.v.numbers.length d), (0, .one (.c (.func (.yield l) #[] #[]))), (tP 1 1 0), (tP 2 2 0)] a9 aq fun c2 bu => ?_))
       refine wf ?_
       exact Exists.intro af ⟨Nat.lt_succ_self _, Exists.intro (IntKind.i64.wrap (x_v10 + 1)) ⟨x33.1, a5, ao, _, _, rfl, ((bu.keep [12, 11, 10, 0, 1, 2] (by rfl)).cut 3 (by kernel_rfl)), (aq.cutPl 3 (by kernel_rfl)), (Heap.le_trans y (Heap.le_trans ab (Heap.le_trans a1 ap))), aw, g⟩⟩
     ·
      rw [aj, cond_false] at g
      have bv : Kn 37 (K98e2 f b_q0 b_q1 m p x_v10 q) [(tB 30 false), (tP 6 4 0), (tI 12 x_v10), (tI 11 ((q0.v.numbers.length : Nat) : Int)), (tS 10 a q0.v.numbers.length d), (0, .one (.c (.func (.yield l) #[] #[]))), (tP 1 1 0), (tP 2 2 0)] bl := (be.setB 30 false (by rfl) aj).kp
      refine RI_runk 9 5 [35, 12, 11, 10, 0, 1, 2] [(tB 35 false), (tI 12 x_v10), (tI 11 ((q0.v.numbers.length : Nat) : Int)), (tS 10 a q0.v.numbers.length d), (0, .one (.c (.func (.yield l) #[] #[]))), (tP 1 1 0), (tP 2 2 0)] bv ae.plOk (by kernel_rfl) fun c3 ba => ?_
      refine wpFromI_end (by decide) (wC false ba (fun hb => ?_) (fun hb => ?_))
      ·
       cases hb
      refine wp_skip (wp_region_from (Rk 0 2 [(tI 12 (IntKind.i64.wrap (x_v10 + 1))), (tI 11 ((q0.v.numbers.length : Nat) : Int)), (tS 10 a q0.v.numbers.length d), (0, .one (.c (.func (.yield l) #[] #[]))), (tP 1 1 0), (tP 2 2 0)] ba ae fun c4 bw => ?_))
      refine wf ?_
      exact Exists.intro af ⟨Nat.lt_succ_self _, Exists.intro (IntKind.i64.wrap (x_v10 + 1)) ⟨x_v11, aa, z, _, _, rfl, ((bw.keep [12, 11, 10, 0, 1, 2] (by rfl)).cut 3 (by kernel_rfl)), (ae.cutPl 3 (by kernel_rfl)), (Heap.le_trans y ab), al, g⟩⟩
    ·
     rw [ai, cond_false] at g
     have bx : Kn 37 (K98e2 f b_q0 b_q1 m p x_v10 q) [(tB 26 false), (tP 6 4 0), (tI 12 x_v10), (tI 11 ((q0.v.numbers.length : Nat) : Int)), (tS 10 a q0.v.numbers.length d), (0, .one (.c (.func (.yield l) #[] #[]))), (tP 1 1 0), (tP 2 2 0)] bk := (bc.setB 26 false (by rfl) ai).kp
     refine RI_runk 5 9 [35, 12, 11, 10, 0, 1, 2] [(tB 35 false), (tI 12 x_v10), (tI 11 ((q0.v.numbers.length : Nat) : Int)), (tS 10 a q0.v.numbers.length d), (0, .one (.c (.func (.yield l) #[] #[]))), (tP 1 1 0), (tP 2 2 0)] bx ad.plOk (by kernel_rfl) fun c5 bb => ?_
     refine wpFromI_end (by decide) (wC false bb (fun hb => ?_) (fun hb => ?_))
     ·
      cases hb
     refine wp_skip (wp_region_from (Rk 0 2 [(tI 12 (IntKind.i64.wrap (x_v10 + 1))), (tI 11 ((q0.v.numbers.length : Nat) : Int)), (tS 10 a q0.v.numbers.length d), (0, .one (.c (.func (.yield l) #[] #[]))), (tP 1 1 0), (tP 2 2 0)] bb ad fun c6 bz => ?_))
     refine wf ?_
     exact Exists.intro af ⟨Nat.lt_succ_self _, Exists.intro (IntKind.i64.wrap (x_v10 + 1)) ⟨x_v11, aa, z, _, _, rfl, ((bz.keep [12, 11, 10, 0, 1, 2] (by rfl)).cut 3 (by kernel_rfl)), (ad.cutPl 3 (by kernel_rfl)), y, al, g⟩⟩
   ·
    rw [ay, cond_false] at g
    refine wp_exit ?_
    obtain rfl := Option.some.inj g
    exact Exists.intro x_v11 ⟨aa, z, _, _, rfl, a0.kp, a2, y, al, rfl⟩
 ·
  rintro _ df ⟨av, a6, az, a3, am, rfl, c0, cc, bg, bm, rfl⟩
  rw [Ex.bind_go] at H
  replace x := bg _ _ _ x
  obtain rfl := Option.some.inj H
  exact it_end (J := fun w' => ∃ h', Heap.le h h' ∧ J av h' w') rfl ⟨am, bg, cc.J hJ bm⟩
set_option maxRecDepth 100000 in
set_option maxHeartbeats 4000000 in
theorem pit_book_defects_ok (n : Nat) {h : Heap} {w : World} (hh : Has h w) (b : Bx Book) {b_b : Nat} (hb_b : BoxS h b_b b.v) (bus : Int) {r : (Bx Book) × Int} (H : pit_book_defects n b bus = some r) :
  Calls Try.prog 84 #[.pointer (some ⟨b_b, 0, none⟩), .int .i64 bus] w (Ret (fun h v => ∃ b0 b1 : Nat, v = .func (.func 98) #[] #[.pointer (some ⟨b0, 0, none⟩), .pointer (some ⟨b1, 0, none⟩)] ∧ BoxS h b0 r.1 ∧ BoxS h b1 r.2) h w) := by
 obtain ⟨_, al, ae⟩ := id hb_b
 obtain ⟨_, _, rfl, ⟨g, ar, aq, rfl, l, au⟩, ⟨f, k, rfl, ax⟩⟩ := al
 refine enter' (e := [(b_b, 0)]) 6 [.c (.ptr 0 0), .c (.int .i64 bus)] Try.func84 rfl rfl rfl rfl fun t hk => ?_
 have hm := Mem.begin h w hh
 replace hm := hm.addPlc (o := 0) (cs := [.map (some g), .slice f b.v.numbers.length k]) (fun j c hj => by rw [Nat.zero_add]; exact ae j _ (map_get hj)) rfl (by kernel_rfl) (by kernel_rfl)
 replace hm : Mem ⟨w, h, noX⟩ h [(b_b, 0)] [⟨[.map (some g), .slice f b.v.numbers.length k], none⟩] [] w := hm
 unfold pit_book_defects at H
 refine wp_seq (wp_region_from (wl fun K hK => ?_))
 refine wb (.c (.ptr 0 0)) hk hm fun a am ap (af : Kn 6 [(b_b, 0), (a, 0)] [(tP 2 1 0), (tP 0 0 0), (tI 1 bus)] am) (ak : Mem ⟨w, h, noX⟩ h [(b_b, 0), (a, 0)] [⟨[.map (some g), .slice f b.v.numbers.length k], none⟩, ⟨[.ptr 0 0], some 100⟩] [] ap) => hK _ _ ?_
 refine wl fun K hK => ?_
 refine wb (.c (.int .i64 bus)) af ak fun d an x (ag : Kn 6 [(b_b, 0), (a, 0), (d, 0)] [(tP 3 2 0), (tP 2 1 0), (tP 0 0 0), (tI 1 bus)] an) (ac : Mem ⟨w, h, noX⟩ h [(b_b, 0), (a, 0), (d, 0)] [⟨[.map (some g), .slice f b.v.numbers.length k], none⟩, ⟨[.ptr 0 0], some 100⟩, ⟨[.int .i64 bus], some 3⟩] [] x) => hK _ _ ?_
 refine Rk 2 1 [(tP 3 2 0), (tP 2 1 0)] ag ac fun ay ah => ?_
 refine wf (wp_seq (wp_region_from ?_))
 obtain ⟨m, aa, y, u⟩ := ac.settlePlc (i := 1) rfl
 replace hb_b := hb_b.mono aa
 replace l := aa _ _ _ l
 replace u : Mem ⟨w, h, noX⟩ m [(b_b, 0), (a, 0), (d, 0)] [⟨[.map (some g), .slice f b.v.numbers.length k], none⟩, ⟨[.ptr 0 0], none⟩, ⟨[.int .i64 bus], some 3⟩] [] x := u
 have s : BoxS m a (b : Bx Book) := BoxS.of (e := [(b_b, 0), (a, 0), (d, 0)]) (cs := [.ptr 0 0]) (⟨_, rfl, hb_b⟩ : rep m (b : Bx Book) _) rfl y
 have av : CellsAt m a [.pointer (some ⟨b_b, 0, none⟩)] := CellsAt.of (e := [(b_b, 0), (a, 0), (d, 0)]) (cs := [.ptr 0 0]) rfl y
 obtain ⟨p, ab, z, q⟩ := u.settlePlc (i := 2) rfl
 replace s := s.mono ab
 replace l := ab _ _ _ l
 replace q : Mem ⟨w, h, noX⟩ p [(b_b, 0), (a, 0), (d, 0)] [⟨[.map (some g), .slice f b.v.numbers.length k], none⟩, ⟨[.ptr 0 0], none⟩, ⟨[.int .i64 bus], none⟩] [] x := q
 have ad : BoxS p d (bus : Int) := BoxS.of (e := [(b_b, 0), (a, 0), (d, 0)]) (cs := [.int .i64 bus]) (rep_int : rep p (bus : Int) _) rfl z
 have aw : CellsAt p d [.int .i64 bus] := CellsAt.of (e := [(b_b, 0), (a, 0), (d, 0)]) (cs := [.int .i64 bus]) rfl z
 refine R_func 0 #[] #[.pointer (some ⟨a, 0, none⟩), .pointer (some ⟨d, 0, none⟩)] ah rfl rfl (rfl) rfl (by decide) (by rfl) (by rfl) (by rfl) (by rfl) fun ao (ai : Kn 6 [(b_b, 0), (a, 0), (d, 0)] [(5, .one (.c (.func (.func 98) #[] #[.pointer (some ⟨a, 0, none⟩), .pointer (some ⟨d, 0, none⟩)]))), (tP 3 2 0), (tP 2 1 0)] ao) => ?_
 refine Rk 1 1 [(4, .one (.c (.func (.func 98) #[] #[.pointer (some ⟨a, 0, none⟩), .pointer (some ⟨d, 0, none⟩)])))] ai q fun az aj => ?_
 refine wf (wp_ret ?_)
 obtain rfl := Option.some.inj H
 exact rt (.one (.c (.func (.func 98) #[] #[.pointer (some ⟨a, 0, none⟩), .pointer (some ⟨d, 0, none⟩)]))) aj q ⟨_, _, rfl, s, ad⟩
abbrev K58e1 (b_b d f g : Nat) : Env := [(b_b, 0), (d, 0), (f, 0), (g, 0)]
abbrev K58c2 (q : Nat) (p : Option Addr) (b : Bx Book) (u : Nat) : List SC := [.map (some q), .slice p b.v.numbers.length u]
abbrev K58e3 (b_b d f g y : Nat) : Env := [(b_b, 0), (d, 0), (f, 0), (g, 0), (y, 0)]
abbrev K58c4 (b_b : Nat) : List SC := [.func (.func 83) #[.pointer (some ⟨b_b, 0, none⟩)] #[]]
abbrev K58c5 (x14 : Card) : List SC := [.int .i64 x14.bus, .int .i64 x14.number, .int .i64 x14.minute, .int .u8 x14.kind.n, .int .i64 x14.part, .int .i64 x14.sg]
abbrev K58p6 (q : Nat) (p : Option Addr) (b : Bx Book) (u : Nat) (at_ : Int) (l : Option Addr) (s : List Int) (m b_b : Nat) (x14 : Card) : List Plc := [⟨(K58c2 q p b u), none⟩, ⟨[.int .i64 at_], some 3⟩, ⟨[.slice l s.length m], some 29⟩, ⟨(K58c4 b_b), some 135⟩, ⟨(K58c5 x14), some 99⟩]
abbrev K58m7 (bus : Int) : TM := [(tP 6 2 0), (tP 5 1 0), (tP 0 0 0), (tI 1 bus)]
abbrev K58m8 : TM := [(tP 7 3 0), (tP 6 2 0), (tP 5 1 0)]
set_option maxRecDepth 100000 in
set_option maxHeartbeats 4000000 in
theorem pit_book_opens_ok (n : Nat) {h : Heap} {w : World} (hh : Has h w) (b : Bx Book) {b_b : Nat} (hb_b : BoxS h b_b b.v) (bus : Int) (at_ : Int) {r : List Int} (H : pit_book_opens n b bus at_ = some r) :
  Calls Try.prog 58 #[.pointer (some ⟨b_b, 0, none⟩), .int .i64 bus, .int .i64 at_] w (Ret (fun h v => ∃ a c, v = .slice a r.length c ∧ RepS h a c r) h w) := by
 obtain ⟨_, dm, cd⟩ := id hb_b
 obtain ⟨_, _, rfl, ⟨q, d5, d4, rfl, ac, be⟩, ⟨p, u, rfl, br⟩⟩ := dm
 refine enterMk (e := [(b_b, 0)]) 25 [.c (.ptr 0 0), .c (.int .i64 bus), .c (.int .i64 at_)] Try.func58 rfl rfl rfl rfl fun t hk => ?_
 have hm := Mem.begin h w hh
 replace hm := hm.addPlc (o := 0) (cs := [.map (some q), .slice p b.v.numbers.length u]) (fun j c hj => by rw [Nat.zero_add]; exact cd j _ (map_get hj)) rfl (by kernel_rfl) (by kernel_rfl)
 replace hm : Mem ⟨w, h, noX⟩ h [(b_b, 0)] [⟨(K58c2 q p b u), none⟩] [] w := hm
 unfold pit_book_opens at H
 refine wp_seq (wp_region_from (wl fun K hK => ?_))
 refine wb (.c (.int .i64 at_)) hk hm fun d dp dv (cm : Kn 25 [(b_b, 0), (d, 0)] [(tP 5 1 0), (tP 0 0 0), (tI 1 bus), (tI 2 at_)] dp) (de : Mem ⟨w, h, noX⟩ h [(b_b, 0), (d, 0)] [⟨(K58c2 q p b u), none⟩, ⟨[.int .i64 at_], some 3⟩] [] dv) => hK _ _ ?_
 refine wl fun K hK => ?_
 refine wa [.slice none 0 0] cm de fun f bu dx (cq : Kn 25 [(b_b, 0), (d, 0), (f, 0)] [(tP 6 2 0), (tP 5 1 0), (tP 0 0 0), (tI 1 bus), (tI 2 at_)] bu) (bp : Mem ⟨w, h, noX⟩ h [(b_b, 0), (d, 0), (f, 0)] [⟨(K58c2 q p b u), none⟩, ⟨[.int .i64 at_], some 3⟩, ⟨[.slice none 0 0], some 29⟩] [] dx) => hK _ _ ?_
 have cr : Kn 25 [(b_b, 0), (d, 0), (f, 0)] (K58m7 bus) bu := cq.kp
 refine wf (wp_seq (wp_region_from (Rk 0 1 ((tP 9 0 0) :: (K58m7 bus)) cr bp fun ee ct => ?_)))
 refine R_func 1 #[.pointer (some ⟨b_b, 0, none⟩)] #[] ct rfl rfl (rfl) rfl (by decide) (by rfl) (by rfl) (by rfl) (by rfl) fun dr (cu : Kn 25 [(b_b, 0), (d, 0), (f, 0)] ((10, .one (.c (.func (.func 83) #[.pointer (some ⟨b_b, 0, none⟩)] #[]))) :: (tP 9 0 0) :: (K58m7 bus)) dr) => ?_
 refine wl fun K hK => ?_
 refine wa [.nilfunc] cu bp fun g bv dy (cv : Kn 25 (K58e1 b_b d f g) ((tP 7 3 0) :: (10, .one (.c (.func (.func 83) #[.pointer (some ⟨b_b, 0, none⟩)] #[]))) :: (tP 9 0 0) :: (K58m7 bus)) bv) (df : Mem ⟨w, h, noX⟩ h (K58e1 b_b d f g) [⟨(K58c2 q p b u), none⟩, ⟨[.int .i64 at_], some 3⟩, ⟨[.slice none 0 0], some 29⟩, ⟨[.nilfunc], some 135⟩] [] dy) => hK _ _ ?_
 refine wl fun K hK => ?_
 refine wst 3 0 (.c (.func (.func 83) #[.pointer (some ⟨b_b, 0, none⟩)] #[])) (K58c4 b_b) cv df fun dz cw (ba : Mem ⟨w, h, noX⟩ h (K58e1 b_b d f g) [⟨(K58c2 q p b u), none⟩, ⟨[.int .i64 at_], some 3⟩, ⟨[.slice none 0 0], some 29⟩, ⟨(K58c4 b_b), some 135⟩] [] dz) => hK _ _ ?_
 have cx : Kn 25 (K58e1 b_b d f g) ((tP 7 3 0) :: (K58m7 bus)) bv := cw.kp
 refine wf (wp_seq (wp_seq (wp_region_from (Rk 0 2 ((tI 12 bus) :: (tP 11 0 0) :: K58m8) cx ba fun ef cy => ?_))))
 obtain ⟨x13, ex13, H⟩ := bnd H
 refine wl fun K hK => ?_
 refine wc [.c (.ptr 0 0), .c (.int .i64 bus)] cy ba (pit_book_defects_ok n ba.has b hb_b bus ex13) fun eh a3 al b7 ar dg => ?_
 replace be := be.mono ar
 replace br := br.mono ar
 replace hb_b := hb_b.mono ar
 replace ac := ar _ _ _ ac
 obtain ⟨ap, aq, rfl, ca, cb⟩ := b7
 refine ⟨.one (.c (.func (.func 98) #[] #[.pointer (some ⟨ap, 0, none⟩), .pointer (some ⟨aq, 0, none⟩)])), rfl, fun bw (cz : Kn 25 (K58e1 b_b d f g) ((13, .one (.c (.func (.func 98) #[] #[.pointer (some ⟨ap, 0, none⟩), .pointer (some ⟨aq, 0, none⟩)]))) :: (tI 12 bus) :: (tP 11 0 0) :: K58m8) bw) => hK _ _ ?_⟩
 have a7 : Kn 25 (K58e1 b_b d f g) ((13, .one (.c (.func (.func 98) #[] #[.pointer (some ⟨ap, 0, none⟩), .pointer (some ⟨aq, 0, none⟩)]))) :: K58m8) bw := cz.kp
 refine wf (wp_block ?_)
 have dh : Mem ⟨w, h, noX⟩ a3 (K58e1 b_b d f g) [⟨(K58c2 q p b u), none⟩, ⟨[.int .i64 at_], some 3⟩, ⟨[.slice none 0 0], some 29⟩, ⟨(K58c4 b_b), some 135⟩] [⟨none, 0, 0, 3, 1, [], 0⟩] al := dg.nilRow 3 1
 have ce : Cells a3 ([] : List Int) [] := Cells.nil
 obtain ⟨ab, b5, H⟩ := bnd H
 refine wp_rangeJ (.func (.func 98) #[] #[.pointer (some ⟨ap, 0, none⟩), .pointer (some ⟨aq, 0, none⟩)]) a7 (by rfl) rfl (fun _ _ => by kernel_rfl) fun af bb => ?_
 obtain ⟨b4, da, d9, di⟩ := Mem.loopBegin dh (Marks.nil _) ⟨rfl, rfl⟩ af
 have b6 : JOk (fun (s : List Int) (h' : Heap) (w' : World) => ∃ (Fj : Fr) (l : Option Addr) (m : Nat) (x : List Value), LoopFr w h Fj ((al).heap.size + 1) af ((al).heap.size :: ([] : List Nat)) ∧ Mem Fj h' (K58e1 b_b d f g) [⟨(K58c2 q p b u), none⟩, ⟨[.int .i64 at_], some 3⟩, ⟨[.slice l s.length m], some 29⟩, ⟨(K58c4 b_b), some 135⟩] [⟨l, s.length, m, 3, 1, x, 0⟩] w' ∧ Cells h' s x ∧ Heap.le a3 h') := ⟨fun s h' w' hj => by obtain ⟨_, l, m, x, _, hm, ai, _⟩ := hj; exact hm.has, fun s h' h'' w' w'' hj hb hle hn => by obtain ⟨Fj, l, m, x, hlf, hm, ai, hle0⟩ := hj; exact ⟨Fj, l, m, x, hlf, hm.call hb hle hn, ai.mono hle, Heap.le_trans hle0 hle⟩⟩
 refine ⟨_, pit_book_defects_1_it n b6 (fun (s : List Int) (x14 : Card) => (((((fun (y0 : Card) (y1 : Int) => pit_book_openL n b y0 y1) x14 at_).bind fun x18 =>
    (bif x18 then
    ((app s ([x14.number] : List Int)).bind fun x23 =>
    some x23)
    else
    some s)) : Option (List Int)).bind fun s1 => some (s1, true))) ?_ ([] : List Int) ⟨b4, none, 0, ([]), da, di, ce, Heap.le_refl _⟩ x13.1 ca x13.2 cb b5, ?_⟩
 ·
  intro s x14 s' d3 aj d0 ch cs_x14 hrep_x14 a2
  obtain ⟨a1, l, m, x, a8, ax, ai, au⟩ := ch
  obtain ⟨ec, ad, a2⟩ := bnd a2
  cases a2
  replace hb_b := hb_b.mono au
  replace ac := au _ _ _ ac
  replace ax : Mem a1 aj (K58e1 b_b d f g) [⟨(K58c2 q p b u), none⟩, ⟨[.int .i64 at_], some 3⟩, ⟨[.slice l s.length m], some 29⟩, ⟨(K58c4 b_b), some 135⟩] [⟨l, s.length, m, 3, 1, x, 0⟩] d0 := ax
  refine yields1 bb (ax.ext a8.loop) ?_
  obtain ⟨_, _, rfl, rfl, ⟨_, _, rfl, rfl, ⟨_, _, rfl, rfl, ⟨_, _, rfl, rfl, ⟨_, _, rfl, rfl, rfl⟩⟩⟩⟩⟩ := hrep_x14
  have c0 : Kn 25 (K58e1 b_b d f g) ((tA 14 (K58c5 x14)) :: K58m8) _ := (a7.kp.put (k := 14) (by decide) (.one (.agg (K58c5 x14))))
  refine ws_region_from (by kernel_rfl) (wl fun K hK => ?_)
  refine wa [.int .i64 0, .int .i64 0, .int .i64 0, .int .u8 0, .int .i64 0, .int .i64 0] c0 ax fun y bx d1 (c1 : Kn 25 (K58e3 b_b d f g y) ((tP 8 4 0) :: (tA 14 (K58c5 x14)) :: K58m8) bx) (dj : Mem a1 aj (K58e3 b_b d f g y) [⟨(K58c2 q p b u), none⟩, ⟨[.int .i64 at_], some 3⟩, ⟨[.slice l s.length m], some 29⟩, ⟨(K58c4 b_b), some 135⟩, ⟨[.int .i64 0, .int .i64 0, .int .i64 0, .int .u8 0, .int .i64 0, .int .i64 0], some 99⟩] [⟨l, s.length, m, 3, 1, x, 0⟩] d1) => hK _ _ ?_
  refine wl fun K hK => ?_
  refine wst 4 0 (.agg (K58c5 x14)) (K58c5 x14) c1 dj fun b1 c2 (bq : Mem a1 aj (K58e3 b_b d f g y) (K58p6 q p b u at_ l s m b_b x14) [⟨l, s.length, m, 3, 1, x, 0⟩] b1) => hK _ _ ?_
  have c3 : Kn 25 (K58e3 b_b d f g y) ((tP 8 4 0) :: K58m8) bx := c2.kp
  refine wf ?_
  refine ⟨bq.ext a8.loop, ?_⟩
  obtain ⟨ao, av, ea, an⟩ := Mem.loopStep bq a8 { af with state := .busy }
  replace an : Mem ao aj (K58e3 b_b d f g y) (K58p6 q p b u at_ l s m b_b x14) [⟨l, s.length, m, 3, 1, x, 0⟩] (World.putObj b1 ((al).heap.size + 1) (.loop { af with state := .busy })) := an
  refine ws_block (ws_seq (ws_region_from (by kernel_rfl) (Rk 0 3 [(tI 17 at_), (tA 16 (K58c5 x14)), (15, .one (.c (.func (.func 83) #[.pointer (some ⟨b_b, 0, none⟩)] #[]))), (tP 8 4 0), (tP 6 2 0)] c3 an fun eg c4 => ?_)))
  obtain ⟨x18, ex18, ad⟩ := bnd ad
  refine wl fun K hK => ?_
  refine wp_callV (.func (.func 83) #[.pointer (some ⟨b_b, 0, none⟩)] #[]) [.agg (K58c5 x14), .c (.int .i64 at_)] _ c4 an rfl rfl (by decide) (by rfl) (by rfl) rfl ((show Fn2 aj (.func (.func 83) #[.pointer (some ⟨b_b, 0, none⟩)] #[]) (fun (y0 : Card) (y1 : Int) => pit_book_openL n b y0 y1) from fun h2 w2 hle hh y0 cs0 hy0 y1 r H => ⟨83, _, _, rfl, fun _ _ => by kernel_rfl, pit_book_openL_ok n hh b (BoxS.mono hle hb_b) y0 hy0 y1 H⟩) _ _ (Heap.le_refl _) an.has x14 _ ((rep_pair rep_int (rep_pair rep_int (rep_pair rep_int (rep_pair rep_ik (rep_pair rep_int rep_int))))) : rep aj x14 _) at_ _ ex18) fun ei ae ej b8 ak ay => ?_
  replace ai := ai.mono ak
  replace ac := ak _ _ _ ac
  obtain rfl := b8
  refine ⟨.one (.c (.bool x18)), rfl, fun bz (c5 : Kn 25 (K58e3 b_b d f g y) [(tB 18 x18), (tI 17 at_), (tA 16 (K58c5 x14)), (15, .one (.c (.func (.func 83) #[.pointer (some ⟨b_b, 0, none⟩)] #[]))), (tP 8 4 0), (tP 6 2 0)] bz) => hK _ _ ?_⟩
  have bh : Kn 25 (K58e3 b_b d f g y) [(tB 18 x18), (tP 8 4 0), (tP 6 2 0)] bz := c5.kp
  refine wf (ws_cond_sv (x18) bh (by kernel_rfl) (fun a4 => ?_) (fun a4 => ?_))
  ·
   rw [a4, cond_true] at ad
   refine ws_region_from (by kernel_rfl) (Rk 0 3 [(tI 21 x14.number), (tS 19 l s.length m), (tP 6 2 0)] bh ay fun ed ci => ?_)
   refine wl fun K hK => ?_
   refine wS 3 1 [.int .i64 x14.number] ci ay fun am dn ds (cj : Kn 25 (K58e3 b_b d f g y) [(tS 22 am 1 1), (tI 21 x14.number), (tS 19 l s.length m), (tP 6 2 0)] dn) (bl : Mem ao ae (K58e3 b_b d f g y) (K58p6 q p b u at_ l s m b_b x14) [⟨l, s.length, m, 3, 1, x, 0⟩, ⟨am, 1, 1, 3, 1, ([.int .i64 x14.number] : List Value), 0⟩] ds) => ?_
   have a5 : Cells ae ([x14.number] : List Int) ([.int .i64 x14.number] : List Value) := ⟨_, _, rfl, (rep_int : rep ae (x14.number : Int) _), rfl⟩
   refine hK _ _ ?_
   obtain ⟨x23, ex23, ad⟩ := bnd ad
   obtain ⟨bc, c6⟩ := app_some ex23
   refine wl fun K hK => ?_
   refine wp_append 0 8 1 _ (x23.length) _ ([.int .i64 x14.number] : List Value) cj bl rfl rfl (by decide) rfl (by rfl) (by kernel_rfl) (by rfl) (by rfl) (Cells.len a5) (bl.rowCell (i := 1) rfl) a5.one (by rw [bc]; simp <;> omega) (by rw [bc]; exact c6) (by decide) fun ag ah bd bt dt cf (ck : Kn 25 (K58e3 b_b d f g y) [(tS 23 ag x23.length ah), (tS 22 am 1 1), (tI 21 x14.number), (tS 19 l s.length m), (tP 6 2 0)] bt) (db : Mem ao ae (K58e3 b_b d f g y) (K58p6 q p b u at_ l s m b_b x14) [⟨ag, x23.length, ah, 3, 1, (x ++ ([.int .i64 x14.number] : List Value)), bd⟩, ⟨am, 1, 1, 3, 1, ([.int .i64 x14.number] : List Value), 0⟩] dt) => ?_
   have cc : Cells ae x23 (x ++ ([.int .i64 x14.number] : List Value)) := by rw [bc]; exact Cells.append ai a5
   obtain rfl : bd = 0 := Nat.le_zero.1 cf
   refine hK _ _ ?_
   refine wl fun K hK => ?_
   refine wst 2 0 (.c (.slice ag x23.length ah)) [.slice ag x23.length ah] ck db fun du cl (bm : Mem ao ae (K58e3 b_b d f g y) [⟨(K58c2 q p b u), none⟩, ⟨[.int .i64 at_], some 3⟩, ⟨[.slice ag x23.length ah], some 29⟩, ⟨(K58c4 b_b), some 135⟩, ⟨(K58c5 x14), some 99⟩] [⟨ag, x23.length, ah, 3, 1, (x ++ ([.int .i64 x14.number] : List Value)), 0⟩, ⟨am, 1, 1, 3, 1, ([.int .i64 x14.number] : List Value), 0⟩] du) => hK _ _ ?_
   have eb : Kn 25 (K58e3 b_b d f g y) [] bt := cl.kp
   refine wf ?_
   obtain rfl := Option.some.inj ad
   refine ⟨bm.ext av.loop, ?_⟩
   rw [bb.eq]
   obtain ⟨b2, c8, d6, dc⟩ := Mem.loopStep bm av af
   exact ⟨rfl, ae, ak, b2, ag, ah, (x ++ ([.int .i64 x14.number] : List Value)), c8, (((dc).cutRw 1).cutPl 4 (by kernel_rfl)), cc, (Heap.le_trans au ak)⟩
  ·
   rw [a4, cond_false] at ad
   refine ws_skip ?_
   obtain rfl := Option.some.inj ad
   refine ⟨ay.ext av.loop, ?_⟩
   rw [bb.eq]
   obtain ⟨b3, c9, d7, dd⟩ := Mem.loopStep ay av af
   exact ⟨rfl, ae, ak, b3, l, m, x, c9, ((dd).cutPl 4 (by kernel_rfl)), ai, (Heap.le_trans au ak)⟩
 ·
  intro dw b9
  obtain ⟨bf, _, cg⟩ := b9
  obtain ⟨d2, z, aa, az, bj, bn, a6, c7⟩ := cg
  refine ⟨bn.ext bj.loop, ?_⟩
  obtain ⟨a0, bk, d8, aw⟩ := Mem.loopStep bn bj { af with state := .exhausted }
  replace ac := c7 _ _ _ ac
  replace aw : Mem a0 bf (K58e1 b_b d f g) [⟨(K58c2 q p b u), none⟩, ⟨[.int .i64 at_], some 3⟩, ⟨[.slice z ab.length aa], some 29⟩, ⟨(K58c4 b_b), some 135⟩] [⟨z, ab.length, aa, 3, 1, az, 0⟩] (World.putObj dw ((al).heap.size + 1) (.loop { af with state := .exhausted })) := aw
  refine wp_seq (wp_region_from (Rk 0 1 [(tS 24 z ab.length aa), (tP 6 2 0)] a7 aw fun dq cn => ?_))
  refine wl fun K hK => ?_
  refine wst 2 0 (.c (.slice z ab.length aa)) [.slice z ab.length aa] cn aw fun b0 co (bo : Mem a0 bf (K58e1 b_b d f g) [⟨(K58c2 q p b u), none⟩, ⟨[.int .i64 at_], some 3⟩, ⟨[.slice z ab.length aa], some 29⟩, ⟨(K58c4 b_b), some 135⟩] [⟨z, ab.length, aa, 3, 1, az, 0⟩] b0) => hK _ _ ?_
  have cp : Kn 25 (K58e1 b_b d f g) [(tP 6 2 0)] dq := co.kp
  refine wf (wp_ret ?_)
  obtain ⟨bg, bi, dl, a9⟩ := bo.settle (i := 0) rfl
  replace a6 := a6.mono bi
  replace ac := bi _ _ _ ac
  replace a9 : Mem a0 bg (K58e1 b_b d f g) [⟨(K58c2 q p b u), none⟩, ⟨[.int .i64 at_], some 3⟩, ⟨[.slice z ab.length aa], some 29⟩, ⟨(K58c4 b_b), some 135⟩] [⟨z, ab.length, aa, 3, 1, az, (az : List Value).length⟩] b0 := a9
  have dk : RepS bg z aa ab := ⟨_, a6, dl, bo.rowCap (i := 0) rfl⟩
  obtain rfl := Option.some.inj H
  exact retMk_ok (bs := ((al).heap.size :: ([] : List Nat))) (.one (.c (.slice z ab.length aa))) cp a9 bk.marks bk.of (by kernel_rfl) ⟨_, _, rfl, dk⟩
abbrev K19m1 (bus at_ : Int) : TM := [(tI 1 bus), (tI 2 at_)]
abbrev K19m2 (bus at_ : Int) : TM := (8, .one (.c (.nilptr))) :: (K19m1 bus at_)
abbrev K19m3 (bus at_ : Int) : TM := (tP 8 0 0) :: (K19m1 bus at_)
set_option maxRecDepth 100000 in
set_option maxHeartbeats 4000000 in
theorem pit_Open_ok (n : Nat) {h : Heap} {w : World} (hh : Has h w) (l : List Card) {a_l : Option Addr} {c_l : Nat} (hr_l : RepS h a_l c_l l) (bus : Int) (at_ : Int) {r : (List Int) × Int} (H : pit_Open n l bus at_ = some r) :
  Calls Try.prog 19 #[.slice a_l l.length c_l, .int .i64 bus, .int .i64 at_] w (Ret (fun h v => ∃ v0 v1, v = .tuple #[v0, v1] ∧ (∃ a c, v0 = .slice a r.1.length c ∧ RepS h a c r.1) ∧ (v1 = .int .i64 r.2)) h w) := by
 refine enter 32 [.c (.slice a_l l.length c_l), .c (.int .i64 bus), .c (.int .i64 at_)] Try.func19 rfl rfl rfl rfl fun t hk => ?_
 have hm := Mem.begin h w hh
 unfold pit_Open at H
 refine wp_seq (wp_region_from (Rk 0 2 ((tS 0 a_l l.length c_l) :: (K19m1 bus at_)) hk hm fun cx bt => ?_))
 refine wf (wp_seq (wp_region_from (Rk 0 1 ((tS 11 a_l l.length c_l) :: (K19m1 bus at_)) bt hm fun c8 bx => ?_)))
 obtain ⟨x12, ex12, H⟩ := bnd H
 refine wl fun K hK => ?_
 refine wp_callP [.c (.slice a_l l.length c_l)] _ bx hm rfl rfl (by decide) (by rfl) rfl (fun _ _ => by kernel_rfl) (pit_read_ok n hm.has l hr_l ex12) fun dm ak cl ac cw g => ?_
 rcases af : x12.1 with _ | z
 ·
  rw [af, ptrCase_none] at H
  rw [af] at ac
  obtain ⟨_, _, rfl, rfl, rfl⟩ := ac
  refine .inl ⟨.tup [.c (.nilptr), .c (.int .i64 x12.2)], rfl, fun cg (br : Kn 32 [] ((12, .tup [.c (.nilptr), .c (.int .i64 x12.2)]) :: (tS 11 a_l l.length c_l) :: (K19m1 bus at_)) cg) => hK _ _ ?_⟩
  refine Rk 2 5 ((tI 9 x12.2) :: (K19m2 bus at_)) br g fun c4 bs => ?_
  refine wf (wp_seq (wp_block (wp_seq (wp_region_from (Rk 0 3 ((tB 15 (x12.2 != 0)) :: (tI 9 x12.2) :: (K19m2 bus at_)) bs g fun c5 ar => ?_)))))
  refine wf (wC ((x12.2 != 0)) ar (fun an => ?_) (fun an => ?_))
  ·
   rw [an, cond_true] at H
   refine wp_seq (wp_region_from (Rk 0 3 [(tI 7 x12.2), (tS 6 none 0 0)] ar g fun c6 bu => ?_))
   refine wf (wp_ret ?_)
   obtain rfl := Option.some.inj H
   exact rt (.tup [.c (.slice none 0 0), .c (.int .i64 x12.2)]) bu g ⟨_, _, rfl, ⟨_, _, rfl, RepS.nil⟩, rfl⟩
  ·
   rw [an, cond_false] at H
   refine wp_seq ?_
   obtain ⟨a8, d, H⟩ := bnd H
   refine wp_mid' (fun a' w' => ∃ (ax : Array Value) (aj : Heap), a' = ⟨ax, []⟩ ∧ Kn 32 [] [(8, .one (.c (.nilptr))), (tI 1 bus), (tI 2 at_), (tB 19 a8)] ax ∧ Mem ⟨w, h, noX⟩ aj [] [] [] w' ∧ Heap.le ak aj) ?_ ?_
   ·
    refine wp_region_from (Rk 0 1 ((tI 20 bus) :: (K19m2 bus at_)) ar g fun c7 bv => ?_)
    obtain ⟨x21, ex21, d⟩ := bnd d
    refine wl fun K hK => ?_
    refine wc [.c (.int .i64 bus), .c (.int .i64 0), .c (.int .i64 99)] bv g (pit_within_ok n g.has bus 0 99 ex21) fun dk cq ds be a4 p => ?_
    obtain rfl := be
    refine ⟨.one (.c (.bool x21)), rfl, fun ch (bw : Kn 32 [] ((tB 21 x21) :: (tI 20 bus) :: (K19m2 bus at_)) ch) => hK _ _ ?_⟩
    refine Rk 2 2 ((tB 23 (!x21)) :: (K19m2 bus at_)) bw p fun bb a1 => ?_
    rcases Bool.eq_false_or_eq_true ((!x21)) with u | u
    ·
     rw [u, cond_true] at d
     have bz : Kn 32 [] ((tB 23 true) :: (K19m2 bus at_)) bb := (a1.setB 23 true (by rfl) u).kp
     refine Rk 4 5 ((tB 19 true) :: (K19m2 bus at_)) bz p fun c9 b0 => ?_
     refine wf ?_
     obtain rfl := Option.some.inj d
     exact Exists.intro _ ⟨_, rfl, b0.kp, p, a4⟩
    ·
     rw [u, cond_false] at d
     have b1 : Kn 32 [] ((tB 23 false) :: (K19m2 bus at_)) bb := (a1.setB 23 false (by rfl) u).kp
     refine Rk 4 1 ((tI 24 at_) :: (tB 23 false) :: (K19m2 bus at_)) b1 p fun da a2 => ?_
     obtain ⟨x25, ex25, d⟩ := bnd d
     refine wpFrom_loud _ rfl (wantedS_sound a2 (by kernel_rfl)) fun K hK => ?_
     refine wc [.c (.int .i64 at_)] a2 p (pit_minute_ok n p.has at_ ex25) fun dl cr dt bf cb a7 => ?_
     obtain rfl := bf
     refine ⟨.one (.c (.bool x25)), rfl, fun ci (b2 : Kn 32 [] ((tB 25 x25) :: (tI 24 at_) :: (tB 23 false) :: (K19m2 bus at_)) ci) => hK _ _ ?_⟩
     refine Rk 6 3 ((tB 19 (!x25)) :: (K19m2 bus at_)) b2 a7 fun db b3 => ?_
     refine wf ?_
     obtain rfl := Option.some.inj d
     exact Exists.intro _ ⟨_, rfl, b3.kp, a7, (Heap.le_trans a4 cb)⟩
   ·
    rintro _ du ⟨ax, aj, rfl, au, aw, cv⟩
    refine wC (a8) au (fun ao => ?_) (fun ao => ?_)
    ·
     rw [ao, cond_true] at H
     refine wp_seq (wp_region_from (Rk 0 2 [(tI 7 2), (tS 6 none 0 0)] au aw fun dc b4 => ?_))
     refine wf (wp_ret ?_)
     obtain rfl := Option.some.inj H
     exact rt (.tup [.c (.slice none 0 0), .c (.int .i64 2)]) b4 aw ⟨_, _, rfl, ⟨_, _, rfl, RepS.nil⟩, rfl⟩
    ·
     rw [ao, cond_false] at H
     refine wp_skip (wp_seq (wp_region_from (Rk 0 3 [(tI 30 at_), (tI 29 bus), (28, .one (.c (.nilptr)))] au aw fun dd cu => ?_)))
     cases H
 ·
  rw [af, ptrCase_some] at H
  rw [af] at ac
  obtain ⟨_, _, rfl, ⟨b, rfl, k⟩, rfl⟩ := ac
  obtain ⟨_, cd, bh⟩ := id k
  obtain ⟨_, _, rfl, ⟨ah, cn, cm, rfl, f, ab⟩, ⟨ag, ai, rfl, ae⟩⟩ := cd
  have i : Mem ⟨w, h, noX⟩ ak [(b, 0)] [⟨[.map (some ah), .slice ag z.v.numbers.length ai], none⟩] [] cl := g.addPlc (o := 0) (cs := [.map (some ah), .slice ag z.v.numbers.length ai]) (fun j c hj => by rw [Nat.zero_add]; exact bh j _ (map_get hj)) rfl (by kernel_rfl) (by kernel_rfl)
  refine .inr ⟨b, .tup [.c (.ptr 0 0), .c (.int .i64 x12.2)], by kernel_rfl, rfl, fun cj (b5 : Kn 32 [(b, 0)] ((12, .tup [.c (.ptr 0 0), .c (.int .i64 x12.2)]) :: (tS 11 a_l l.length c_l) :: (K19m1 bus at_)) cj) => hK _ _ ?_⟩
  refine Rk 2 5 ((tI 9 x12.2) :: (K19m3 bus at_)) b5 i fun de b6 => ?_
  refine wf (wp_seq (wp_block (wp_seq (wp_region_from (Rk 0 3 ((tB 15 (x12.2 != 0)) :: (tI 9 x12.2) :: (K19m3 bus at_)) b6 i fun df av => ?_)))))
  refine wf (wC ((x12.2 != 0)) av (fun ap => ?_) (fun ap => ?_))
  ·
   rw [ap, cond_true] at H
   refine wp_seq (wp_region_from (Rk 0 3 [(tI 7 x12.2), (tS 6 none 0 0)] av i fun dg b7 => ?_))
   refine wf (wp_ret ?_)
   obtain rfl := Option.some.inj H
   exact rt (.tup [.c (.slice none 0 0), .c (.int .i64 x12.2)]) b7 i ⟨_, _, rfl, ⟨_, _, rfl, RepS.nil⟩, rfl⟩
  ·
   rw [ap, cond_false] at H
   refine wp_seq ?_
   obtain ⟨a9, e, H⟩ := bnd H
   refine wp_mid' (fun a' w' => ∃ (ay : Array Value) (al : Heap), a' = ⟨ay, []⟩ ∧ Kn 32 [(b, 0)] [(tP 8 0 0), (tI 1 bus), (tI 2 at_), (tB 19 a9)] ay ∧ Mem ⟨w, h, noX⟩ al [(b, 0)] [⟨[.map (some ah), .slice ag z.v.numbers.length ai], none⟩] [] w' ∧ Heap.le ak al) ?_ ?_
   ·
    refine wp_region_from (Rk 0 1 ((tI 20 bus) :: (K19m3 bus at_)) av i fun dh b8 => ?_)
    obtain ⟨x21, ex21, e⟩ := bnd e
    refine wl fun K hK => ?_
    refine wc [.c (.int .i64 bus), .c (.int .i64 0), .c (.int .i64 99)] b8 i (pit_within_ok n i.has bus 0 99 ex21) fun dn ct dv bg m q => ?_
    replace ab := ab.mono m
    replace ae := ae.mono m
    replace k := k.mono m
    replace f := m _ _ _ f
    obtain rfl := bg
    refine ⟨.one (.c (.bool x21)), rfl, fun ck (b9 : Kn 32 [(b, 0)] ((tB 21 x21) :: (tI 20 bus) :: (K19m3 bus at_)) ck) => hK _ _ ?_⟩
    refine Rk 2 2 ((tB 23 (!x21)) :: (K19m3 bus at_)) b9 q fun ba az => ?_
    rcases Bool.eq_false_or_eq_true ((!x21)) with s | s
    ·
     rw [s, cond_true] at e
     have bi : Kn 32 [(b, 0)] ((tB 23 true) :: (K19m3 bus at_)) ba := (az.setB 23 true (by rfl) s).kp
     refine Rk 4 5 ((tB 19 true) :: (K19m3 bus at_)) bi q fun cy bj => ?_
     refine wf ?_
     obtain rfl := Option.some.inj e
     exact Exists.intro _ ⟨_, rfl, bj.kp, q, m⟩
    ·
     rw [s, cond_false] at e
     have bk : Kn 32 [(b, 0)] ((tB 23 false) :: (K19m3 bus at_)) ba := (az.setB 23 false (by rfl) s).kp
     refine Rk 4 1 ((tI 24 at_) :: (tB 23 false) :: (K19m3 bus at_)) bk q fun cz a0 => ?_
     obtain ⟨x25, ex25, e⟩ := bnd e
     refine wpFrom_loud _ rfl (wantedS_sound a0 (by kernel_rfl)) fun K hK => ?_
     refine wc [.c (.int .i64 at_)] a0 q (pit_minute_ok n q.has at_ ex25) fun di co dp bc a3 a5 => ?_
     replace f := a3 _ _ _ f
     obtain rfl := bc
     refine ⟨.one (.c (.bool x25)), rfl, fun ce (bl : Kn 32 [(b, 0)] ((tB 25 x25) :: (tI 24 at_) :: (tB 23 false) :: (K19m3 bus at_)) ce) => hK _ _ ?_⟩
     refine Rk 6 3 ((tB 19 (!x25)) :: (K19m3 bus at_)) bl a5 fun c0 bm => ?_
     refine wf ?_
     obtain rfl := Option.some.inj e
     exact Exists.intro _ ⟨_, rfl, bm.kp, a5, (Heap.le_trans m a3)⟩
   ·
    rintro _ dq ⟨ay, al, rfl, aq, x, ad⟩
    replace ab := ab.mono ad
    replace ae := ae.mono ad
    replace k := k.mono ad
    replace f := ad _ _ _ f
    refine wC (a9) aq (fun am => ?_) (fun am => ?_)
    ·
     rw [am, cond_true] at H
     refine wp_seq (wp_region_from (Rk 0 2 [(tI 7 2), (tS 6 none 0 0)] aq x fun c1 bn => ?_))
     refine wf (wp_ret ?_)
     obtain rfl := Option.some.inj H
     exact rt (.tup [.c (.slice none 0 0), .c (.int .i64 2)]) bn x ⟨_, _, rfl, ⟨_, _, rfl, RepS.nil⟩, rfl⟩
    ·
     rw [am, cond_false] at H
     refine wp_skip (wp_seq (wp_region_from (Rk 0 3 [(tI 30 at_), (tI 29 bus), (tP 28 0 0)] aq x fun c2 bo => ?_)))
     obtain ⟨x31, ex31, H⟩ := bnd H
     refine wl fun K hK => ?_
     refine wc [.c (.ptr 0 0), .c (.int .i64 bus), .c (.int .i64 at_)] bo x (pit_book_opens_ok n x.has z k bus at_ ex31) fun dj cp dr bd ca a6 => ?_
     replace f := ca _ _ _ f
     obtain ⟨y, aa, rfl, cc⟩ := bd
     refine ⟨.one (.c (.slice y x31.length aa)), rfl, fun cf (bp : Kn 32 [(b, 0)] [(tS 31 y x31.length aa), (tI 30 at_), (tI 29 bus), (tP 28 0 0)] cf) => hK _ _ ?_⟩
     refine Rk 4 2 [(tI 7 0), (tS 6 y x31.length aa)] bp a6 fun c3 bq => ?_
     refine wf (wp_ret ?_)
     obtain rfl := Option.some.inj H
     exact rt (.tup [.c (.slice y x31.length aa), .c (.int .i64 0)]) bq a6 ⟨_, _, rfl, ⟨_, _, rfl, cc⟩, rfl⟩
end Go.Proofs.Ytkbphdjemgibnaa
