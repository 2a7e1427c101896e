/- Each call computes its plain function. -/
import Derived.Test.YtokchpjijlebiaaProg
import Derived.Test.YtokchpjijlebiaaSpP0
import Derived.Test.YtokchpjijlebiaaSpWA
set_option linter.all false
namespace Go.Proofs.Ytokchpjijlebiaa
open Go Go.RowKit
open Rep (rep)
open KRep (kv)
open VRep (rv)
set_option maxRecDepth 100000 in
set_option maxHeartbeats 4000000 in
theorem law_list_ok (n : Nat) {h : Heap} {w : World} (hh : Has h w) (l : List Int) {a_l : Option Addr} {c_l : Nat} (hr_l : RepS h a_l c_l l) {r : List Int} (H : law_list n l = some r) :
  Calls Try.prog 29 #[.slice a_l l.length c_l] w (Ret (fun h v => ∃ a c, v = .slice a r.length c ∧ RepS h a c r) h w) := by
 refine enter 5 [.c (.slice a_l l.length c_l)] Try.func29 rfl rfl rfl rfl fun t hk => ?_
 have hm := Mem.begin h w hh
 unfold law_list at H
 refine wp_seq (wp_region_from (Rk 0 1 [(tS 0 a_l l.length c_l)] hk hm fun ai z => ?_))
 refine wf (wp_seq (wp_region_from (Rk 0 1 [(tS 3 a_l l.length c_l)] z hm fun ak ab => ?_)))
 have q : Mem ⟨w, h, noX⟩ h [] [] [⟨none, 0, 0, 3, 1, [], 0⟩] w := hm.nilRow 3 1
 have u : Cells h ([] : List Int) [] := Cells.nil
 obtain ⟨e, f, ag, _⟩ := id hr_l
 obtain ⟨x4, ex4, H⟩ := bnd H
 obtain ⟨m, ac⟩ := app_some ex4
 refine wl fun K hK => ?_
 refine wp_append 0 8 l.length _ (x4.length) _ e ab q rfl rfl (by decide) rfl (by rfl) (by kernel_rfl) (by rfl) (by rfl) (Cells.len f) (ag.cell q.has f.one) f.one (by rw [m]; simp) (by rw [m]; exact ac) (by decide) fun b d o ah s x (y : Kn 5 [] [(tS 4 b x4.length d), (tS 3 a_l l.length c_l)] ah) (j : Mem ⟨w, h, noX⟩ h [] [] [⟨b, x4.length, d, 3, 1, ([] ++ e), o⟩] s) => ?_
 have g : Cells h x4 ([] ++ e) := by rw [m]; exact Cells.append u f
 obtain rfl : o = 0 := Nat.le_zero.1 x
 refine hK _ _ ?_
 refine Rk 2 1 [(tS 2 b x4.length d)] y j fun aj aa => ?_
 refine wf (wp_ret ?_)
 obtain ⟨p, ad, af, k⟩ := j.settle (i := 0) rfl
 replace g := g.mono ad
 replace k : Mem ⟨w, h, noX⟩ p [] [] [⟨b, x4.length, d, 3, 1, ([] ++ e), (([] ++ e) : List Value).length⟩] s := k
 have ae : RepS p b d x4 := ⟨_, g, af, j.rowCap (i := 0) rfl⟩
 obtain rfl := Option.some.inj H
 exact rt (.one (.c (.slice b x4.length d))) aa k ⟨_, _, rfl, ae⟩
set_option maxRecDepth 100000 in
set_option maxHeartbeats 4000000 in
theorem law_list_own (n : Nat) {h : Heap} {w : World} (hh : Has h w) (l : List Int) {a_l : Option Addr} {c_l : Nat} (hr_l : RepS h a_l c_l l) {r : List Int} (H : law_list n l = some r) :
  Calls Try.prog 29 #[.slice a_l l.length c_l] w (RetO (fun h v rs => ∃ (g : Option Addr) (i : Nat) (o : List Value), v = .slice g r.length i ∧ rs = [⟨g, r.length, i, 3, 1, o, 0⟩] ∧ Cells h r o) h w) := by
 refine enter 5 [.c (.slice a_l l.length c_l)] Try.func29 rfl rfl rfl rfl fun t hk => ?_
 have hm := Mem.begin h w hh
 unfold law_list at H
 refine wp_seq (wp_region_from (Rk 0 1 [(tS 0 a_l l.length c_l)] hk hm fun ae x => ?_))
 refine wf (wp_seq (wp_region_from (Rk 0 1 [(tS 3 a_l l.length c_l)] x hm fun ag z => ?_)))
 have m : Mem ⟨w, h, noX⟩ h [] [] [⟨none, 0, 0, 3, 1, [], 0⟩] w := hm.nilRow 3 1
 have q : Cells h ([] : List Int) [] := Cells.nil
 obtain ⟨f, d, ab, _⟩ := id hr_l
 obtain ⟨x4, ex4, H⟩ := bnd H
 obtain ⟨e, aa⟩ := app_some ex4
 refine wl fun K hK => ?_
 refine wp_append 0 8 l.length _ (x4.length) _ f z m rfl rfl (by decide) rfl (by rfl) (by kernel_rfl) (by rfl) (by rfl) (Cells.len d) (ab.cell m.has d.one) d.one (by rw [e]; simp) (by rw [e]; exact aa) (by decide) fun a b j ac ad s (u : Kn 5 [] [(tS 4 a x4.length b), (tS 3 a_l l.length c_l)] ac) (k : Mem ⟨w, h, noX⟩ h [] [] [⟨a, x4.length, b, 3, 1, ([] ++ f), j⟩] ad) => ?_
 have p : Cells h x4 ([] ++ f) := by rw [e]; exact Cells.append q d
 obtain rfl : j = 0 := Nat.le_zero.1 s
 refine hK _ _ ?_
 refine Rk 2 1 [(tS 2 a x4.length b)] u k fun af y => ?_
 refine wf (wp_ret ?_)
 obtain rfl := Option.some.inj H
 exact retO_ok (.one (.c (.slice a x4.length b))) [0] y k (by kernel_rfl) (by kernel_rfl) (by kernel_rfl) ⟨_, _, _, rfl, rfl, p⟩
abbrev K23c1 : List SC := [.slice none 0 0, .slice none 0 0, .slice none 0 0]
abbrev K23c2 (b : Option Addr) (a : Acts) (e : Nat) (d : Option Addr) (f : Nat) (g : Option Addr) (j : Nat) : List SC := [.slice b a.holds.length e, .slice d a.turns.length f, .slice g a.spares.length j]
set_option maxRecDepth 100000 in
set_option maxHeartbeats 4000000 in
theorem law_Acts_ok (n : Nat) {h : Heap} {w : World} (hh : Has h w) (a : Acts) {cs_a : List Value} (hx_a : rep h a cs_a) {r : Acts} (H : law_Acts n a = some r) :
  Calls Try.prog 23 #[.agg cs_a.toArray] w (Ret (fun h v => ∃ cs, v = .agg cs.toArray ∧ rep h r cs) h w) := by
 obtain ⟨_, _, rfl, ⟨b, e, rfl, bc⟩, ⟨_, _, rfl, ⟨d, f, rfl, aj⟩, ⟨g, j, rfl, ak⟩⟩⟩ := hx_a
 refine enter 13 [.agg (K23c2 b a e d f g j)] Try.func23 rfl rfl rfl rfl fun t hk => ?_
 have hm := Mem.begin h w hh
 unfold law_Acts at H
 refine wp_seq (wp_region_from (wl fun K hK => ?_))
 refine wb (.agg (K23c2 b a e d f g j)) hk hm fun k bg bl (a0 : Kn 13 [(k, 0)] [(tP 1 0 0), (tA 0 (K23c2 b a e d f g j))] bg) (bb : Mem ⟨w, h, noX⟩ h [(k, 0)] [⟨(K23c2 b a e d f g j), some 50⟩] [] bl) => hK _ _ ?_
 refine wl fun K hK => ?_
 refine wa K23c1 a0 bb fun l au bm (a1 : Kn 13 [(k, 0), (l, 0)] [(tP 2 1 0), (tP 1 0 0), (tA 0 (K23c2 b a e d f g j))] au) (z : Mem ⟨w, h, noX⟩ h [(k, 0), (l, 0)] [⟨(K23c2 b a e d f g j), some 50⟩, ⟨K23c1, some 34⟩] [] bm) => hK _ _ ?_
 have a2 : Kn 13 [(k, 0), (l, 0)] [(tP 2 1 0), (tP 1 0 0)] au := a1.kp
 refine wf (wp_seq (wp_region_G (by kernel_rfl) ?_))
 replace z := z.drew
 refine wpG_of_D [] [(k, 0), (l, 0)] [⟨(K23c2 b a e d f g j), some 50⟩, ⟨K23c1, some 34⟩] ?_
 refine Dr [0, 1, 3, 4, 6, 7] [7, 6, 4, 3, 1, 0] [(tS 10 g a.spares.length j), (tS 7 d a.turns.length f), (tS 4 b a.holds.length e), (tP 2 1 0)] a2 z fun bq a3 => ?_
 obtain ⟨x5, ex5, H⟩ := bnd H
 refine Dl 2 fun K hK => ?_
 refine wc [.c (.slice b a.holds.length e)] a3 z (law_list_ok n z.has a.holds bc ex5) fun br bp bt aw an ae => ?_
 replace aj := aj.mono an
 obtain ⟨p, q, rfl, ah⟩ := aw
 refine ⟨.one (.c (.slice p x5.length q)), rfl, fun bh (a4 : Kn 13 [(k, 0), (l, 0)] [(tS 5 p x5.length q), (tS 10 g a.spares.length j), (tS 7 d a.turns.length f), (tS 4 b a.holds.length e), (tP 2 1 0)] bh) => hK _ _ ae.plOk ?_⟩
 obtain ⟨x8, ex8, H⟩ := bnd H
 refine Dl 5 fun K hK => ?_
 refine wc [.c (.slice d a.turns.length f)] a4 ae (law_list_ok n ae.has a.turns aj ex8) fun bs y bn ax ao ap => ?_
 replace ak := ak.mono (Heap.le_trans an ao)
 obtain ⟨s, u, rfl, ai⟩ := ax
 refine ⟨.one (.c (.slice s x8.length u)), rfl, fun bi (a5 : Kn 13 [(k, 0), (l, 0)] [(tS 8 s x8.length u), (tS 5 p x5.length q), (tS 10 g a.spares.length j), (tS 7 d a.turns.length f), (tS 4 b a.holds.length e), (tP 2 1 0)] bi) => hK _ _ ap.plOk ?_⟩
 have aq : Mem ⟨w, h, noX⟩ y [(k, 0), (l, 0)] [⟨(K23c2 b a e d f g j), some 50⟩, ⟨K23c1, some 34⟩] [⟨none, 0, 0, 4, 1, [], 0⟩] bn := ap.nilRow 4 1
 have ay : Cells y ([] : List Bool) [] := Cells.nil
 obtain ⟨x, aa, bf, _⟩ := id ak
 obtain ⟨x11, ex11, H⟩ := bnd H
 obtain ⟨al, ba⟩ := app_some ex11
 refine Dl 8 fun K hK => ?_
 refine wp_append 0 1 a.spares.length _ (x11.length) _ x a5 aq rfl rfl (by decide) rfl (by rfl) (by kernel_rfl) (by rfl) (by rfl) (Cells.len aa) (bf.cell aq.has aa.one) aa.one (by rw [al]; simp) (by rw [al]; exact ba) (by decide) fun m o am bj bo az (a6 : Kn 13 [(k, 0), (l, 0)] [(tS 11 m x11.length o), (tS 8 s x8.length u), (tS 5 p x5.length q), (tS 10 g a.spares.length j), (tS 7 d a.turns.length f), (tS 4 b a.holds.length e), (tP 2 1 0)] bj) (af : Mem ⟨w, h, noX⟩ y [(k, 0), (l, 0)] [⟨(K23c2 b a e d f g j), some 50⟩, ⟨K23c1, some 34⟩] [⟨m, x11.length, o, 4, 1, ([] ++ x), am⟩] bo) => ?_
 have ac : Cells y x11 ([] ++ x) := by rw [al]; exact Cells.append ay aa
 obtain rfl : am = 0 := Nat.le_zero.1 az
 refine hK _ _ af.plOk ?_
 refine Dr [9] [9, 8, 5, 2, 7, 6, 4, 3, 1, 0] [(tA 12 [.slice p x5.length q, .slice s x8.length u, .slice m x11.length o]), (tP 2 1 0)] a6 af fun bk a7 => ?_
 refine D_sync 10 rfl (by kernel_rfl) (by decide) (rfl) (by kernel_rfl) fun K hK => ?_
 refine wst 1 0 (.agg [.slice p x5.length q, .slice s x8.length u, .slice m x11.length o]) [.slice p x5.length q, .slice s x8.length u, .slice m x11.length o] a7 af fun av a8 (ar : Mem ⟨w, h, noX⟩ y [(k, 0), (l, 0)] [⟨(K23c2 b a e d f g j), some 50⟩, ⟨[.slice p x5.length q, .slice s x8.length u, .slice m x11.length o], some 34⟩] [⟨m, x11.length, o, 4, 1, ([] ++ x), 0⟩] av) => hK _ _ ?_
 have a9 : Kn 13 [(k, 0), (l, 0)] [(tP 2 1 0)] bk := a8.kp
 refine wpG_end (by kernel_rfl) (wp_ret ?_)
 obtain ⟨ab, ad, be, ag⟩ := ar.settle (i := 0) rfl
 replace ah := ah.mono (Heap.le_trans ao ad)
 replace ai := ai.mono ad
 replace ac := ac.mono ad
 replace ag : Mem ⟨w, h, noX⟩ ab [(k, 0), (l, 0)] [⟨(K23c2 b a e d f g j), some 50⟩, ⟨[.slice p x5.length q, .slice s x8.length u, .slice m x11.length o], some 34⟩] [⟨m, x11.length, o, 4, 1, ([] ++ x), (([] ++ x) : List Value).length⟩] av := ag
 have bd : RepS ab m o x11 := ⟨_, ac, be, ar.rowCap (i := 0) rfl⟩
 obtain rfl := Option.some.inj H
 exact rt (.one (.agg [.slice p x5.length q, .slice s x8.length u, .slice m x11.length o])) a9 ag ⟨_, rfl, ((rep_pair (rep_slice ah) (rep_pair (rep_slice ai) (rep_slice bd))) : rep ab ((Acts.mk x5 x8 x11) : Acts) _)⟩
abbrev K22c1 (f : Option Addr) (a : Acts) (i : Nat) (g : Option Addr) (k : Nat) (o : Option Addr) (s : Nat) : List SC := [.slice f a.holds.length i, .slice g a.turns.length k, .slice o a.spares.length s]
abbrev K22c2 (l : Option Addr) (b : Acts) (p : Nat) (m : Option Addr) (q : Nat) (u : Option Addr) (x : Nat) : List SC := [.slice l b.holds.length p, .slice m b.turns.length q, .slice u b.spares.length x]
abbrev K22m3 : TM := [(tP 3 1 0), (tP 2 0 0)]
set_option maxRecDepth 100000 in
set_option maxHeartbeats 4000000 in
theorem law_acts_ok (n : Nat) {h : Heap} {w : World} (hh : Has h w) (a : Acts) {cs_a : List Value} (hx_a : rep h a cs_a) (b : Acts) {cs_b : List Value} (hx_b : rep h b cs_b) {r : Bool} (H : law_acts n a b = some r) :
  Calls Try.prog 22 #[.agg cs_a.toArray, .agg cs_b.toArray] w (Ret (fun h v => v = .bool r) h w) := by
 obtain ⟨_, _, rfl, ⟨f, i, rfl, ao⟩, ⟨_, _, rfl, ⟨g, k, rfl, ap⟩, ⟨o, s, rfl, ad⟩⟩⟩ := hx_a
 obtain ⟨_, _, rfl, ⟨l, p, rfl, am⟩, ⟨_, _, rfl, ⟨m, q, rfl, an⟩, ⟨u, x, rfl, ac⟩⟩⟩ := hx_b
 refine enter 47 [.agg (K22c1 f a i g k o s), .agg (K22c2 l b p m q u x)] Try.func22 rfl rfl rfl rfl fun t hk => ?_
 have hm := Mem.begin h w hh
 unfold law_acts at H
 refine wp_seq (wp_region_from (wl fun K hK => ?_))
 refine wb (.agg (K22c1 f a i g k o s)) hk hm fun d cv cz (b1 : Kn 47 [(d, 0)] [(tP 2 0 0), (tA 0 (K22c1 f a i g k o s)), (tA 1 (K22c2 l b p m q u x))] cv) (ci : Mem ⟨w, h, noX⟩ h [(d, 0)] [⟨(K22c1 f a i g k o s), some 34⟩] [] cz) => hK _ _ ?_
 refine wl fun K hK => ?_
 refine wb (.agg (K22c2 l b p m q u x)) b1 ci fun e cw c0 (b2 : Kn 47 [(d, 0), (e, 0)] [(tP 3 1 0), (tP 2 0 0), (tA 0 (K22c1 f a i g k o s)), (tA 1 (K22c2 l b p m q u x))] cw) (au : Mem ⟨w, h, noX⟩ h [(d, 0), (e, 0)] [⟨(K22c1 f a i g k o s), some 34⟩, ⟨(K22c2 l b p m q u x), some 34⟩] [] c0) => hK _ _ ?_
 refine Rk 2 1 K22m3 b2 au fun db b3 => ?_
 refine wf (wp_seq (wp_seq ?_))
 obtain ⟨bh, z, H⟩ := bnd H
 refine wp_mid' (fun a' w' => ∃ (a6 : Array Value) (ag : Heap), a' = ⟨a6, []⟩ ∧ Kn 47 [(d, 0), (e, 0)] [(tP 3 1 0), (tP 2 0 0), (tB 28 bh)] a6 ∧ Mem ⟨w, h, noX⟩ ag [(d, 0), (e, 0)] [⟨(K22c1 f a i g k o s), some 34⟩, ⟨(K22c2 l b p m q u x), some 34⟩] [] w' ∧ Heap.le h ag) ?_ ?_
 ·
  refine wp_region_from (Rk 0 4 ((tS 9 l b.holds.length p) :: (tS 7 f a.holds.length i) :: K22m3) b3 au fun dc b4 => ?_)
  obtain ⟨x10, ex10, z⟩ := bnd z
  refine wl fun K hK => ?_
  refine wc [.c (.slice f a.holds.length i), .c (.slice l b.holds.length p)] b4 au (law_ints_ok n au.has a.holds ao b.holds am ex10) fun dl c3 dq bn aa af => ?_
  replace ao := ao.mono aa
  replace ap := ap.mono aa
  replace ad := ad.mono aa
  replace am := am.mono aa
  replace an := an.mono aa
  replace ac := ac.mono aa
  obtain rfl := bn
  refine ⟨.one (.c (.bool x10)), rfl, fun cx (b5 : Kn 47 [(d, 0), (e, 0)] ((tB 10 x10) :: (tS 9 l b.holds.length p) :: (tS 7 f a.holds.length i) :: K22m3) cx) => hK _ _ ?_⟩
  refine Rk 5 2 ((tB 12 (!x10)) :: K22m3) b5 af fun bk bb => ?_
  rcases Bool.eq_false_or_eq_true ((!x10)) with ai | ai
  ·
   rw [ai, cond_true] at z
   have b6 : Kn 47 [(d, 0), (e, 0)] ((tB 12 true) :: K22m3) bk := (bb.setB 12 true (by rfl) ai).kp
   refine Rk 7 16 ((tB 28 true) :: K22m3) b6 af fun dd b7 => ?_
   refine wf ?_
   obtain rfl := Option.some.inj z
   exact Exists.intro _ ⟨_, rfl, b7.kp, af, aa⟩
  ·
   rw [ai, cond_false] at z
   have b8 : Kn 47 [(d, 0), (e, 0)] ((tB 12 false) :: K22m3) bk := (bb.setB 12 false (by rfl) ai).kp
   refine Rk 7 4 ((tS 16 m b.turns.length q) :: (tS 14 g a.turns.length k) :: (tB 12 false) :: K22m3) b8 af fun de bc => ?_
   obtain ⟨x17, ex17, z⟩ := bnd z
   refine wpFrom_loud _ rfl (wantedS_sound bc (by kernel_rfl)) fun K hK => ?_
   refine wc [.c (.slice g a.turns.length k), .c (.slice m b.turns.length q)] bc af (law_ints_ok n af.has a.turns ap b.turns an ex17) fun dm c4 dr bo be al => ?_
   obtain rfl := bo
   refine ⟨.one (.c (.bool x17)), rfl, fun cy (b9 : Kn 47 [(d, 0), (e, 0)] ((tB 17 x17) :: (tS 16 m b.turns.length q) :: (tS 14 g a.turns.length k) :: (tB 12 false) :: K22m3) cy) => hK _ _ ?_⟩
   refine Rk 12 3 ((tB 20 (!x17)) :: K22m3) b9 al fun bl bd => ?_
   rcases Bool.eq_false_or_eq_true ((!x17)) with aj | aj
   ·
    rw [aj, cond_true] at z
    have ca : Kn 47 [(d, 0), (e, 0)] ((tB 20 true) :: K22m3) bl := (bd.setB 20 true (by rfl) aj).kp
    refine Rk 15 8 ((tB 28 true) :: K22m3) ca al fun df cb => ?_
    refine wf ?_
    obtain rfl := Option.some.inj z
    exact Exists.intro _ ⟨_, rfl, cb.kp, al, (Heap.le_trans aa be)⟩
   ·
    rw [aj, cond_false] at z
    have cc : Kn 47 [(d, 0), (e, 0)] ((tB 20 false) :: K22m3) bl := (bd.setB 20 false (by rfl) aj).kp
    refine Rk 15 8 ((tB 28 (((a.spares.length : Nat) : Int) != ((b.spares.length : Nat) : Int))) :: K22m3) cc al fun dg cd => ?_
    refine wf ?_
    obtain rfl := Option.some.inj z
    exact Exists.intro _ ⟨_, rfl, cd.kp, al, (Heap.le_trans aa be)⟩
 ·
  rintro _ ds ⟨a6, ag, rfl, a2, av, ae⟩
  replace ao := ao.mono ae
  replace ap := ap.mono ae
  replace ad := ad.mono ae
  replace am := am.mono ae
  replace an := an.mono ae
  replace ac := ac.mono ae
  refine wC (bh) a2 (fun az => ?_) (fun az => ?_)
  ·
   rw [az, cond_true] at H
   refine wp_seq (wp_region_from (Rk 0 1 [(tB 4 false)] a2 av fun dh ce => ?_))
   refine wf (wp_ret ?_)
   obtain rfl := Option.some.inj H
   exact rt (.one (.c (.bool false))) ce av rfl
  ·
   rw [az, cond_false] at H
   refine wp_skip (wp_seq (wp_seq (wp_region_from (Rk 0 1 ((tI 5 0) :: K22m3) a2 av fun di cf => ?_))))
   refine wf ?_
   obtain ⟨bi, ba, H⟩ := bnd H
   refine wp_mid' (fun a' w' => ∃ (bj : Unit) (a7 : Array Value) (ax : Heap), a' = ⟨a7, []⟩ ∧ Kn 47 [(d, 0), (e, 0)] [] a7 ∧ Mem ⟨w, h, noX⟩ ax [(d, 0), (e, 0)] [⟨(K22c1 f a i g k o s), some 34⟩, ⟨(K22c2 l b p m q u x), some 34⟩] [] w' ∧ Heap.le ag ax ∧ bi = .go bj) ?_ ?_
   ·
    refine wp_block ?_
    refine wp_loop_n (fun cr a' w' => ∃ (x_v10 : Int) (a8 : Array Value) (ah : Heap), a' = ⟨a8, []⟩ ∧ Kn 47 [(d, 0), (e, 0)] ((tI 5 x_v10) :: K22m3) a8 ∧ Mem ⟨w, h, noX⟩ ah [(d, 0), (e, 0)] [⟨(K22c1 f a i g k o s), some 34⟩, ⟨(K22c2 l b p m q u x), some 34⟩] [] w' ∧ Heap.le ag ah ∧ law_acts_l1 cr a b x_v10 = some bi) n ?_ ?_
    ·
     exact Exists.intro 0 ⟨_, _, rfl, cf.kp, av, (Heap.le_refl _), ba⟩
    ·
     rintro a5 _ bm ⟨x_v10, a8, ah, rfl, cg, ab, ar, y⟩
     clear ba
     obtain _ | a5 := a5
     ·
      rw [law_acts_l1] at y; cases y
     rw [law_acts_l1] at y
     replace ad := ad.mono ar
     replace ac := ac.mono ar
     refine wp_seq (wp_seq (wp_region_from (Rk 0 5 ((tB 33 (decide (x_v10 < ((a.spares.length : Nat) : Int)))) :: (tI 5 x_v10) :: K22m3) cg ab fun dj a3 => ?_)))
     refine wf (wC (decide (x_v10 < ((a.spares.length : Nat) : Int))) a3 (fun a0 => ?_) (fun a0 => ?_))
     ·
      rw [a0, cond_true] at y
      refine wp_skip (wp_seq (wp_block (wp_seq (wp_region_G (by kernel_rfl) ?_))))
      replace ab := ab.drew
      refine wpG_of_D [] [(d, 0), (e, 0)] [⟨(K22c1 f a i g k o s), some 34⟩, ⟨(K22c2 l b p m q u x), some 34⟩] ?_
      refine Dr [0, 1, 2] [2, 1, 0] ((tI 38 x_v10) :: (tS 37 o a.spares.length s) :: (tI 5 x_v10) :: K22m3) a3 ab fun dk ch => ?_
      obtain ⟨x39, ex39, y⟩ := bnd y
      obtain ⟨cj, cl, cp⟩ := idx_some ex39
      obtain ⟨aq, aw, c1, bp, cn, br⟩ := ad.get (by decide) cp
      obtain rfl := cn
      have a4 : Mem ⟨w, h, noX⟩ ah [(d, 0), (e, 0), (aq, aw + (x_v10 : Int).toNat * 1)] [⟨(K22c1 f a i g k o s), some 34⟩, ⟨(K22c2 l b p m q u x), some 34⟩, ⟨[.bool x39], none⟩] [] (World.drew bm) := ab.addPlc (cs := [.bool x39]) (fun j c hj => br j _ (map_get hj)) rfl (by kernel_rfl) (by kernel_rfl)
      refine D_index 3 (x_v10) [.bool x39] (fun _ _ _ _ _ h => h) rfl rfl (rfl) rfl (by decide) (by kernel_rfl) (by kernel_rfl) ch ab.plOk (by rfl) (by rfl) (by rfl) bp (by rfl) cj cl (by kernel_rfl) fun ct (bt : Kn 47 [(d, 0), (e, 0), (aq, aw + (x_v10 : Int).toNat * 1)] ((tP 39 2 0) :: (tI 38 x_v10) :: (tS 37 o a.spares.length s) :: (tI 5 x_v10) :: K22m3) ct) => ?_
      refine Dr [4, 5, 6, 7] (dn 7) ((tI 43 x_v10) :: (tS 42 u b.spares.length x) :: (tB 40 x39) :: (tI 5 x_v10) :: K22m3) bt a4 fun c6 bu => ?_
      obtain ⟨x44, ex44, y⟩ := bnd y
      obtain ⟨ck, cm, cq⟩ := idx_some ex44
      obtain ⟨a9, bg, c2, bq, co, bs⟩ := ac.get (by decide) cq
      obtain rfl := co
      have ak : Mem ⟨w, h, noX⟩ ah [(d, 0), (e, 0), (aq, aw + (x_v10 : Int).toNat * 1), (a9, bg + (x_v10 : Int).toNat * 1)] [⟨(K22c1 f a i g k o s), some 34⟩, ⟨(K22c2 l b p m q u x), some 34⟩, ⟨[.bool x39], none⟩, ⟨[.bool x44], none⟩] [] (World.drew bm) := a4.addPlc (cs := [.bool x44]) (fun j c hj => bs j _ (map_get hj)) rfl (by kernel_rfl) (by kernel_rfl)
      refine D_index 8 (x_v10) [.bool x44] (fun _ _ _ _ _ h => h) rfl rfl (rfl) rfl (by decide) (by kernel_rfl) (by kernel_rfl) bu a4.plOk (by rfl) (by rfl) (by rfl) bq (by rfl) ck cm (by kernel_rfl) fun cu (bv : Kn 47 [(d, 0), (e, 0), (aq, aw + (x_v10 : Int).toNat * 1), (a9, bg + (x_v10 : Int).toNat * 1)] ((tP 44 3 0) :: (tI 43 x_v10) :: (tS 42 u b.spares.length x) :: (tB 40 x39) :: (tI 5 x_v10) :: K22m3) cu) => ?_
      refine Dr [9, 10] (dn 10) ((tB 46 (!(x39 == x44))) :: (tI 5 x_v10) :: K22m3) bv ak fun c7 a1 => ?_
      refine wpD_end (by kernel_rfl) (wC ((!(x39 == x44))) a1 (fun ay => ?_) (fun ay => ?_))
      ·
       rw [ay, cond_true] at y
       refine wp_seq (wp_region_from (Rk 0 1 [(tB 4 false)] a1 ak fun c8 bw => ?_))
       refine wf (wp_ret ?_)
       obtain rfl := Option.some.inj y
       obtain rfl := Option.some.inj H
       exact rt (.one (.c (.bool false))) bw ak rfl
      ·
       rw [ay, cond_false] at y
       refine wp_skip (wp_region_from (Rk 0 3 ((tI 5 (IntKind.i64.wrap (x_v10 + 1))) :: K22m3) a1 ak fun c9 bx => ?_))
       refine wf ?_
       exact Exists.intro a5 ⟨Nat.lt_succ_self _, Exists.intro (IntKind.i64.wrap (x_v10 + 1)) ⟨_, _, rfl, ((bx.keep [5, 3, 2] (by rfl)).cut 2 (by kernel_rfl)), (ak.cutPl 2 (by kernel_rfl)), ar, y⟩⟩
     ·
      rw [a0, cond_false] at y
      refine wp_exit ?_
      obtain rfl := Option.some.inj y
      exact Exists.intro () ⟨_, _, rfl, a3.kp, ab, ar, rfl⟩
   ·
    rintro _ dp ⟨bj, a7, ax, rfl, bz, bf, c5, rfl⟩
    rw [Ex.bind_go] at H
    refine wp_seq (wp_region_from (Rk 0 1 [(tB 4 true)] bz bf fun da b0 => ?_))
    refine wf (wp_ret ?_)
    obtain rfl := Option.some.inj H
    exact rt (.one (.c (.bool true))) b0 bf rfl
abbrev K28c1 (q : Option Addr) (a : Acts) (u : Nat) (k : Option Addr) (m : Nat) (y : Option Addr) (z : Nat) : List SC := [.slice q a.holds.length u, .slice k a.turns.length m, .slice y a.spares.length z]
abbrev K28e2 (b d s x : Nat) (x_v10 : Int) (aa ab ae aj ar ax : Nat) : Env := [(b, 0), (d, 0), (s, x + (x_v10 : Int).toNat * 1), (aa, ab + (x_v10 : Int).toNat * 1), (ae, aj + (x_v10 : Int).toNat * 1), (ar, ax + (x_v10 : Int).toNat * 3)]
abbrev K28c3 (i : Option Addr) (r_ : Route) (o : Nat) (f : Option Addr) (g : Nat) (l : Option Addr) (p : Nat) : List SC := [.slice i r_.legs.length o, .int .i64 r_.turn.lo, .int .i64 r_.turn.hi, .slice f r_.buses.length g, .slice l r_.spares.length p, .int .i64 r_.unit, .int .i64 r_.gap, .int .i64 r_.fr, .int .i64 r_.to_]
abbrev K28m4 (x_v10 : Int) : TM := [(tI 5 x_v10), (tP 3 1 0), (tP 2 0 0)]
abbrev K28m5 : TM := [(tP 3 1 0), (tP 2 0 0)]
abbrev K28m6 (x_v10 : Int) : TM := (tB 52 true) :: (tB 45 false) :: (K28m4 x_v10)
set_option maxRecDepth 100000 in
set_option maxHeartbeats 4000000 in
theorem ref_AreActs_ok (n : Nat) {h : Heap} {w : World} (hh : Has h w) (r_ : Route) {cs_r_ : List Value} (hx_r_ : rep h r_ cs_r_) (a : Acts) {cs_a : List Value} (hx_a : rep h a cs_a) {r : Bool} (H : ref_AreActs n r_ a = some r) :
  Calls Try.prog 28 #[.agg cs_r_.toArray, .agg cs_a.toArray] w (Ret (fun h v => v = .bool r) h w) := by
 obtain ⟨_, _, rfl, ⟨i, o, rfl, ao⟩, ⟨_, _, rfl, ⟨_, _, rfl, rfl, rfl⟩, ⟨_, _, rfl, ⟨f, g, rfl, ai⟩, ⟨_, _, rfl, ⟨l, p, rfl, ap⟩, ⟨_, _, rfl, rfl, ⟨_, _, rfl, rfl, ⟨_, _, rfl, rfl, rfl⟩⟩⟩⟩⟩⟩⟩ := hx_r_
 obtain ⟨_, _, rfl, ⟨q, u, rfl, an⟩, ⟨_, _, rfl, ⟨k, m, rfl, ah⟩, ⟨y, z, rfl, aw⟩⟩⟩ := hx_a
 refine enter 71 [.agg (K28c3 i r_ o f g l p), .agg (K28c1 q a u k m y z)] Try.func28 rfl rfl rfl rfl fun t hk => ?_
 have hm := Mem.begin h w hh
 unfold ref_AreActs at H
 refine wp_seq (wp_region_from (wl fun K hK => ?_))
 refine wb (.agg (K28c3 i r_ o f g l p)) hk hm fun b d5 d9 (cy : Kn 71 [(b, 0)] [(tP 2 0 0), (tA 0 (K28c3 i r_ o f g l p)), (tA 1 (K28c1 q a u k m y z))] d5) (dg : Mem ⟨w, h, noX⟩ h [(b, 0)] [⟨(K28c3 i r_ o f g l p), some 28⟩] [] d9) => hK _ _ ?_
 refine wl fun K hK => ?_
 refine wb (.agg (K28c1 q a u k m y z)) cy dg fun d d6 ea (cz : Kn 71 [(b, 0), (d, 0)] [(tP 3 1 0), (tP 2 0 0), (tA 0 (K28c3 i r_ o f g l p)), (tA 1 (K28c1 q a u k m y z))] d6) (ad : Mem ⟨w, h, noX⟩ h [(b, 0), (d, 0)] [⟨(K28c3 i r_ o f g l p), some 28⟩, ⟨(K28c1 q a u k m y z), some 50⟩] [] ea) => hK _ _ ?_
 refine Rk 2 1 K28m5 cz ad fun ex c0 => ?_
 refine wf (wp_seq (wp_seq ?_))
 obtain ⟨bz, ak, H⟩ := bnd H
 refine wp_mid' (fun a' w' => ∃ (bh : Array Value) (ay : Heap), a' = ⟨bh, []⟩ ∧ Kn 71 [(b, 0), (d, 0)] [(tP 3 1 0), (tP 2 0 0), (tB 30 bz)] bh ∧ Mem ⟨w, h, noX⟩ ay [(b, 0), (d, 0)] [⟨(K28c3 i r_ o f g l p), some 28⟩, ⟨(K28c1 q a u k m y z), some 50⟩] [] w' ∧ Heap.le h ay) ?_ ?_
 ·
  refine wp_region_from (Rk 0 8 ((tB 13 (((a.holds.length : Nat) : Int) != ((r_.buses.length : Nat) : Int))) :: K28m5) c0 ad fun b4 bv => ?_)
  rcases Bool.eq_false_or_eq_true ((((a.holds.length : Nat) : Int) != ((r_.buses.length : Nat) : Int))) with a1 | a1
  ·
   rw [a1, cond_true] at ak
   have c1 : Kn 71 [(b, 0), (d, 0)] ((tB 13 true) :: K28m5) b4 := (bv.setB 13 true (by rfl) a1).kp
   refine Rk 8 17 ((tB 30 true) :: K28m5) c1 ad fun ey c2 => ?_
   refine wf ?_
   obtain rfl := Option.some.inj ak
   exact Exists.intro _ ⟨_, rfl, c2.kp, ad, (Heap.le_refl _)⟩
  ·
   rw [a1, cond_false] at ak
   have c3 : Kn 71 [(b, 0), (d, 0)] ((tB 13 false) :: K28m5) b4 := (bv.setB 13 false (by rfl) a1).kp
   refine Rk 8 9 ((tB 22 (((a.turns.length : Nat) : Int) != ((r_.buses.length : Nat) : Int))) :: K28m5) c3 ad fun b5 bw => ?_
   rcases Bool.eq_false_or_eq_true ((((a.turns.length : Nat) : Int) != ((r_.buses.length : Nat) : Int))) with a2 | a2
   ·
    rw [a2, cond_true] at ak
    have c4 : Kn 71 [(b, 0), (d, 0)] ((tB 22 true) :: K28m5) b5 := (bw.setB 22 true (by rfl) a2).kp
    refine Rk 17 8 ((tB 30 true) :: K28m5) c4 ad fun ez c5 => ?_
    refine wf ?_
    obtain rfl := Option.some.inj ak
    exact Exists.intro _ ⟨_, rfl, c5.kp, ad, (Heap.le_refl _)⟩
   ·
    rw [a2, cond_false] at ak
    have c6 : Kn 71 [(b, 0), (d, 0)] ((tB 22 false) :: K28m5) b5 := (bw.setB 22 false (by rfl) a2).kp
    refine Rk 17 8 ((tB 30 (((a.spares.length : Nat) : Int) != ((r_.spares.length : Nat) : Int))) :: K28m5) c6 ad fun e0 c7 => ?_
    refine wf ?_
    obtain rfl := Option.some.inj ak
    exact Exists.intro _ ⟨_, rfl, c7.kp, ad, (Heap.le_refl _)⟩
 ·
  rintro _ fc ⟨bh, ay, rfl, bc, a6, au⟩
  replace ao := ao.mono au
  replace ai := ai.mono au
  replace ap := ap.mono au
  replace an := an.mono au
  replace ah := ah.mono au
  replace aw := aw.mono au
  refine wC (bz) bc (fun a9 => ?_) (fun a9 => ?_)
  ·
   rw [a9, cond_true] at H
   refine wp_seq (wp_region_from (Rk 0 1 [(tB 4 false)] bc a6 fun e1 c8 => ?_))
   refine wf (wp_ret ?_)
   obtain rfl := Option.some.inj H
   exact rt (.one (.c (.bool false))) c8 a6 rfl
  ·
   rw [a9, cond_false] at H
   refine wp_skip (wp_seq (wp_seq (wp_region_from (Rk 0 1 ((tI 5 0) :: K28m5) bc a6 fun e2 c9 => ?_))))
   refine wf ?_
   obtain ⟨b0, bl, H⟩ := bnd H
   refine wp_mid' (fun a' w' => ∃ (b1 : Unit) (bi : Array Value) (a7 : Heap), a' = ⟨bi, []⟩ ∧ Kn 71 [(b, 0), (d, 0)] [] bi ∧ Mem ⟨w, h, noX⟩ a7 [(b, 0), (d, 0)] [⟨(K28c3 i r_ o f g l p), some 28⟩, ⟨(K28c1 q a u k m y z), some 50⟩] [] w' ∧ Heap.le ay a7 ∧ b0 = .go b1) ?_ ?_
   ·
    refine wp_block ?_
    refine wp_loop_n (fun dz a' w' => ∃ (x_v10 : Int) (bj : Array Value) (a3 : Heap), a' = ⟨bj, []⟩ ∧ Kn 71 [(b, 0), (d, 0)] (K28m4 x_v10) bj ∧ Mem ⟨w, h, noX⟩ a3 [(b, 0), (d, 0)] [⟨(K28c3 i r_ o f g l p), some 28⟩, ⟨(K28c1 q a u k m y z), some 50⟩] [] w' ∧ Heap.le ay a3 ∧ ref_AreActs_l1 dz r_ a x_v10 = some b0) n ?_ ?_
    ·
     exact Exists.intro 0 ⟨_, _, rfl, c9.kp, a6, (Heap.le_refl _), bl⟩
    ·
     rintro aq _ eb ⟨x_v10, bj, a3, rfl, da, am, ac, e⟩
     clear bl
     obtain _ | aq := aq
     ·
      rw [ref_AreActs_l1] at e; cases e
     rw [ref_AreActs_l1] at e
     replace ao := ao.mono ac
     replace ai := ai.mono ac
     replace ap := ap.mono ac
     replace an := an.mono ac
     replace ah := ah.mono ac
     replace aw := aw.mono ac
     refine wp_seq (wp_seq (wp_region_from (Rk 0 5 ((tB 35 (decide (x_v10 < ((r_.buses.length : Nat) : Int)))) :: (K28m4 x_v10)) da am fun e3 bd => ?_)))
     refine wf (wC (decide (x_v10 < ((r_.buses.length : Nat) : Int))) bd (fun ba => ?_) (fun ba => ?_))
     ·
      rw [ba, cond_true] at e
      refine wp_skip (wp_seq (wp_block (wp_seq (wp_region_G (by kernel_rfl) ?_))))
      replace am := am.drew
      refine wpG_of_D [] [(b, 0), (d, 0)] [⟨(K28c3 i r_ o f g l p), some 28⟩, ⟨(K28c1 q a u k m y z), some 50⟩] ?_
      refine Dr [0, 1, 2] [2, 1, 0] ((tI 40 x_v10) :: (tS 39 q a.holds.length u) :: (K28m4 x_v10)) bd am fun e4 db => ?_
      obtain ⟨x41, ex41, e⟩ := bnd e
      obtain ⟨dk, dq, dy⟩ := idx_some ex41
      obtain ⟨s, x, ef, cc, du, cg⟩ := an.get (by decide) dy
      obtain rfl := du
      have bg : Mem ⟨w, h, noX⟩ a3 [(b, 0), (d, 0), (s, x + (x_v10 : Int).toNat * 1)] [⟨(K28c3 i r_ o f g l p), some 28⟩, ⟨(K28c1 q a u k m y z), some 50⟩, ⟨[.int .i64 x41], none⟩] [] (World.drew eb) := am.addPlc (cs := [.int .i64 x41]) (fun j c hj => cg j _ (map_get hj)) rfl (by kernel_rfl) (by kernel_rfl)
      refine D_index 3 (x_v10) [.int .i64 x41] (fun _ _ _ _ _ h => h) rfl rfl (rfl) rfl (by decide) (by kernel_rfl) (by kernel_rfl) db am.plOk (by rfl) (by rfl) (by rfl) cc (by rfl) dk dq (by kernel_rfl) fun d7 (dc : Kn 71 [(b, 0), (d, 0), (s, x + (x_v10 : Int).toNat * 1)] ((tP 41 2 0) :: (tI 40 x_v10) :: (tS 39 q a.holds.length u) :: (K28m4 x_v10)) d7) => ?_
      refine Dr [4] (dn 4) ((tI 42 x41) :: (K28m4 x_v10)) dc bg fun e5 dd => ?_
      obtain ⟨x43, ex43, e⟩ := bnd e
      refine Dl 5 fun K hK => ?_
      refine wc [.c (.int .i64 x41), .c (.int .i64 0), .c (.int .i64 2)] dd bg (ref_In_ok aq bg.has x41 0 2 ex43) fun e8 a4 bk b8 af ag => ?_
      replace ao := ao.mono af
      replace ai := ai.mono af
      replace ap := ap.mono af
      replace an := an.mono af
      replace ah := ah.mono af
      replace aw := aw.mono af
      obtain rfl := b8
      refine ⟨.one (.c (.bool x43)), rfl, fun d8 (ch : Kn 71 [(b, 0), (d, 0), (s, x + (x_v10 : Int).toNat * 1)] ((tB 43 x43) :: (tI 42 x41) :: (K28m4 x_v10)) d8) => hK _ _ ag.plOk ?_⟩
      refine Dr [6, 7] (dn 7) ((tB 45 (!x43)) :: (K28m4 x_v10)) ch ag fun b2 bm => ?_
      rcases Bool.eq_false_or_eq_true ((!x43)) with az | az
      ·
       rw [az, cond_true] at e
       have ci : Kn 71 [(b, 0), (d, 0), (s, x + (x_v10 : Int).toNat * 1)] ((tB 45 true) :: (K28m4 x_v10)) b2 := (bm.setB 45 true (by rfl) az).kp
       refine Dr [8, 9, 10, 11, 12, 13, 14, 15, 16, 17, 18, 19, 20, 21, 22, 23, 24, 25, 26, 27, 28, 29, 30, 31, 32] (dn 32) ((tB 70 true) :: (K28m4 x_v10)) ci ag fun ej bn => ?_
       refine wpD_end (by kernel_rfl) (wC true bn (fun hb => ?_) (fun hb => ?_))
       rotate_left
       ·
        cases hb
       refine wp_seq (wp_region_from (Rk 0 1 [(tB 4 false)] bn ag fun ek cj => ?_))
       refine wf (wp_ret ?_)
       obtain rfl := Option.some.inj e
       obtain rfl := Option.some.inj H
       exact rt (.one (.c (.bool false))) cj ag rfl
      ·
       rw [az, cond_false] at e
       have ck : Kn 71 [(b, 0), (d, 0), (s, x + (x_v10 : Int).toNat * 1)] ((tB 45 false) :: (K28m4 x_v10)) b2 := (bm.setB 45 false (by rfl) az).kp
       refine Dr [8, 9, 10] (dn 10) ((tI 48 x_v10) :: (tS 47 k a.turns.length m) :: (tB 45 false) :: (K28m4 x_v10)) ck ag fun el bo => ?_
       obtain ⟨x49, ex49, e⟩ := bnd e
       obtain ⟨dh, dl, dv⟩ := idx_some ex49
       obtain ⟨aa, ab, ec, b9, dr, cd⟩ := ah.get (by decide) dv
       obtain rfl := dr
       have al : Mem ⟨w, h, noX⟩ a4 [(b, 0), (d, 0), (s, x + (x_v10 : Int).toNat * 1), (aa, ab + (x_v10 : Int).toNat * 1)] [⟨(K28c3 i r_ o f g l p), some 28⟩, ⟨(K28c1 q a u k m y z), some 50⟩, ⟨[.int .i64 x41], none⟩, ⟨[.int .i64 x49], none⟩] [] bk := ag.addPlc (cs := [.int .i64 x49]) (fun j c hj => cd j _ (map_get hj)) rfl (by kernel_rfl) (by kernel_rfl)
       refine D_index 11 (x_v10) [.int .i64 x49] (fun _ _ _ _ _ h => h) rfl rfl (wantedS_sound bo (by kernel_rfl)) rfl (by decide) (by kernel_rfl) (by kernel_rfl) bo ag.plOk (by rfl) (by rfl) (by rfl) b9 (by rfl) dh dl (by kernel_rfl) fun d0 (cl : Kn 71 [(b, 0), (d, 0), (s, x + (x_v10 : Int).toNat * 1), (aa, ab + (x_v10 : Int).toNat * 1)] ((tP 49 3 0) :: (tI 48 x_v10) :: (tS 47 k a.turns.length m) :: (tB 45 false) :: (K28m4 x_v10)) d0) => ?_
       refine Dr [12, 13, 14] (dn 14) ((tB 52 (x49 != (-1))) :: (tB 45 false) :: (K28m4 x_v10)) cl al fun b3 bp => ?_
       rcases Bool.eq_false_or_eq_true ((x49 != (-1))) with a0 | a0
       ·
        rw [a0, cond_true] at e
        have cm : Kn 71 [(b, 0), (d, 0), (s, x + (x_v10 : Int).toNat * 1), (aa, ab + (x_v10 : Int).toNat * 1)] (K28m6 x_v10) b3 := (bp.setB 52 true (by rfl) a0).kp
        refine Dr [15, 16, 17] (dn 17) ((tI 55 x_v10) :: (tS 54 k a.turns.length m) :: (K28m6 x_v10)) cm al fun em bq => ?_
        obtain ⟨x56, ex56, e⟩ := bnd e
        obtain ⟨di, dm, dw⟩ := idx_some ex56
        obtain ⟨ae, aj, ed, ca, ds, ce⟩ := ah.get (by decide) dw
        obtain rfl := ds
        have be : Mem ⟨w, h, noX⟩ a4 [(b, 0), (d, 0), (s, x + (x_v10 : Int).toNat * 1), (aa, ab + (x_v10 : Int).toNat * 1), (ae, aj + (x_v10 : Int).toNat * 1)] [⟨(K28c3 i r_ o f g l p), some 28⟩, ⟨(K28c1 q a u k m y z), some 50⟩, ⟨[.int .i64 x41], none⟩, ⟨[.int .i64 x49], none⟩, ⟨[.int .i64 x56], none⟩] [] bk := al.addPlc (cs := [.int .i64 x56]) (fun j c hj => ce j _ (map_get hj)) rfl (by kernel_rfl) (by kernel_rfl)
        refine D_index 18 (x_v10) [.int .i64 x56] (fun _ _ _ _ _ h => h) rfl rfl (wantedS_sound bq (by kernel_rfl)) rfl (by decide) (by kernel_rfl) (by kernel_rfl) bq al.plOk (by rfl) (by rfl) (by rfl) ca (by rfl) di dm (by kernel_rfl) fun d1 (cn : Kn 71 [(b, 0), (d, 0), (s, x + (x_v10 : Int).toNat * 1), (aa, ab + (x_v10 : Int).toNat * 1), (ae, aj + (x_v10 : Int).toNat * 1)] ((tP 56 4 0) :: (tI 55 x_v10) :: (tS 54 k a.turns.length m) :: (K28m6 x_v10)) d1) => ?_
        refine Dr [19, 20, 21, 22] (dn 22) ((tI 60 x_v10) :: (tS 59 f r_.buses.length g) :: (tI 57 x56) :: (K28m6 x_v10)) cn be fun en br => ?_
        obtain ⟨x61, ex61, e⟩ := bnd e
        obtain ⟨dj, dp, dx⟩ := idx_some ex61
        obtain ⟨ar, ax, ee, cb, dt, cf⟩ := ai.get (by decide) dx
        obtain ⟨_, _, rfl, rfl, ⟨_, _, rfl, rfl, rfl⟩⟩ := dt
        have bf : Mem ⟨w, h, noX⟩ a4 (K28e2 b d s x x_v10 aa ab ae aj ar ax) [⟨(K28c3 i r_ o f g l p), some 28⟩, ⟨(K28c1 q a u k m y z), some 50⟩, ⟨[.int .i64 x41], none⟩, ⟨[.int .i64 x49], none⟩, ⟨[.int .i64 x56], none⟩, ⟨[.int .i64 x61.stop, .int .i64 x61.tm.lo, .int .i64 x61.tm.hi], none⟩] [] bk := be.addPlc (cs := [.int .i64 x61.stop, .int .i64 x61.tm.lo, .int .i64 x61.tm.hi]) (fun j c hj => cf j _ (map_get hj)) rfl (by kernel_rfl) (by kernel_rfl)
        refine D_index 23 (x_v10) [.int .i64 x61.stop, .int .i64 x61.tm.lo, .int .i64 x61.tm.hi] (fun _ _ _ _ _ h => h) rfl rfl (wantedS_sound br (by kernel_rfl)) rfl (by decide) (by kernel_rfl) (by kernel_rfl) br be.plOk (by rfl) (by rfl) (by rfl) cb (by rfl) dj dp (by kernel_rfl) fun d2 (co : Kn 71 (K28e2 b d s x x_v10 aa ab ae aj ar ax) ((tP 61 5 0) :: (tI 60 x_v10) :: (tS 59 f r_.buses.length g) :: (tI 57 x56) :: (K28m6 x_v10)) d2) => ?_
        refine Dr [24, 25, 26] (dn 26) ((tA 64 (K28c3 i r_ o f g l p)) :: (tI 63 x61.stop) :: (tI 57 x56) :: (K28m6 x_v10)) co bf fun eo bs => ?_
        obtain ⟨x65, ex65, e⟩ := bnd e
        refine D_loud 27 rfl (by kernel_rfl) (by decide) (wantedS_sound bs (by kernel_rfl)) fun K hK => ?_
        refine wc [.agg (K28c3 i r_ o f g l p)] bs bf (ref_Places_ok aq bf.has r_ ((rep_pair (rep_slice ao) (rep_pair (rep_pair rep_int rep_int) (rep_pair (rep_slice ai) (rep_pair (rep_slice ap) (rep_pair rep_int (rep_pair rep_int (rep_pair rep_int rep_int))))))) : rep a4 r_ _) ex65) fun e6 eg e9 b6 de a5 => ?_
        obtain rfl := b6
        refine ⟨.one (.c (.int .i64 x65)), rfl, fun d3 (cp : Kn 71 (K28e2 b d s x x_v10 aa ab ae aj ar ax) ((tI 65 x65) :: (tA 64 (K28c3 i r_ o f g l p)) :: (tI 63 x61.stop) :: (tI 57 x56) :: (K28m6 x_v10)) d3) => hK _ _ a5.plOk ?_⟩
        refine Dr [28] (dn 28) ((tI 66 (IntKind.i64.wrap (x65 - 2))) :: (tI 63 x61.stop) :: (tI 57 x56) :: (K28m6 x_v10)) cp a5 fun ep bt => ?_
        obtain ⟨x67, ex67, e⟩ := bnd e
        refine D_loud 29 rfl (by kernel_rfl) (by decide) (wantedS_sound bt (by kernel_rfl)) fun K hK => ?_
        refine wc [.c (.int .i64 x56), .c (.int .i64 x61.stop), .c (.int .i64 (IntKind.i64.wrap (x65 - 2)))] bt a5 (ref_In_ok aq a5.has x56 x61.stop (IntKind.i64.wrap (x65 - 2)) ex67) fun e7 eh fa b7 df av => ?_
        obtain rfl := b7
        refine ⟨.one (.c (.bool x67)), rfl, fun d4 (cq : Kn 71 (K28e2 b d s x x_v10 aa ab ae aj ar ax) ((tB 67 x67) :: (tI 66 (IntKind.i64.wrap (x65 - 2))) :: (tI 63 x61.stop) :: (tI 57 x56) :: (K28m6 x_v10)) d4) => hK _ _ av.plOk ?_⟩
        refine Dr [30, 31, 32] (dn 32) ((tB 70 (!x67)) :: (K28m4 x_v10)) cq av fun er bb => ?_
        refine wpD_end (by kernel_rfl) (wC ((!x67)) bb (fun a8 => ?_) (fun a8 => ?_))
        ·
         rw [a8, cond_true] at e
         refine wp_seq (wp_region_from (Rk 0 1 [(tB 4 false)] bb av fun es cr => ?_))
         refine wf (wp_ret ?_)
         obtain rfl := Option.some.inj e
         obtain rfl := Option.some.inj H
         exact rt (.one (.c (.bool false))) cr av rfl
        ·
         rw [a8, cond_false] at e
         refine wp_skip (wp_region_from (Rk 0 3 ((tI 5 (IntKind.i64.wrap (x_v10 + 1))) :: K28m5) bb av fun et ct => ?_))
         refine wf ?_
         exact Exists.intro aq ⟨Nat.lt_succ_self _, Exists.intro (IntKind.i64.wrap (x_v10 + 1)) ⟨_, _, rfl, ((ct.keep [5, 3, 2] (by rfl)).cut 2 (by kernel_rfl)), (av.cutPl 2 (by kernel_rfl)), (Heap.le_trans ac (Heap.le_trans af (Heap.le_trans de df))), e⟩⟩
       ·
        rw [a0, cond_false] at e
        have cu : Kn 71 [(b, 0), (d, 0), (s, x + (x_v10 : Int).toNat * 1), (aa, ab + (x_v10 : Int).toNat * 1)] ((tB 52 false) :: (tB 45 false) :: (K28m4 x_v10)) b3 := (bp.setB 52 false (by rfl) a0).kp
        refine Dr [15, 16, 17, 18, 19, 20, 21, 22, 23, 24, 25, 26, 27, 28, 29, 30, 31, 32] (dn 32) ((tB 70 false) :: (K28m4 x_v10)) cu al fun eu bu => ?_
        refine wpD_end (by kernel_rfl) (wC false bu (fun hb => ?_) (fun hb => ?_))
        ·
         cases hb
        refine wp_skip (wp_region_from (Rk 0 3 ((tI 5 (IntKind.i64.wrap (x_v10 + 1))) :: K28m5) bu al fun ev cv => ?_))
        refine wf ?_
        exact Exists.intro aq ⟨Nat.lt_succ_self _, Exists.intro (IntKind.i64.wrap (x_v10 + 1)) ⟨_, _, rfl, ((cv.keep [5, 3, 2] (by rfl)).cut 2 (by kernel_rfl)), (al.cutPl 2 (by kernel_rfl)), (Heap.le_trans ac af), e⟩⟩
     ·
      rw [ba, cond_false] at e
      refine wp_exit ?_
      obtain rfl := Option.some.inj e
      exact Exists.intro () ⟨_, _, rfl, bd.kp, am, ac, rfl⟩
   ·
    rintro _ fb ⟨b1, bi, a7, rfl, cw, bx, ei, rfl⟩
    rw [Ex.bind_go] at H
    refine wp_seq (wp_region_from (Rk 0 1 [(tB 4 true)] cw bx fun ew cx => ?_))
    refine wf (wp_ret ?_)
    obtain rfl := Option.some.inj H
    exact rt (.one (.c (.bool true))) cx bx rfl
abbrev K45c1 : List SC := [.slice none 0 0, .int .i64 0, .int .i64 0, .slice none 0 0, .slice none 0 0, .int .i64 0, .int .i64 0, .int .i64 0, .int .i64 0]
abbrev K45c2 (a b c : Option Addr) : List SC := [.slice a 3 3, .int .i64 0, .int .i64 4, .slice b 2 2, .slice c 1 1, .int .i64 5, .int .i64 37, .int .i64 0, .int .i64 50]
abbrev K45r3 (a b c : Option Addr) : List Row := [⟨a, 3, 3, 39, 2, ([.int .i64 10, .int .i64 10, .int .i64 5, .int .i64 15, .int .i64 10, .int .i64 12] : List Value), 0⟩, ⟨b, 2, 2, 96, 3, ([.int .i64 0, .int .i64 0, .int .i64 0, .int .i64 0, .int .i64 10, .int .i64 20] : List Value), 0⟩, ⟨c, 1, 1, 110, 2, ([.int .i64 2, .int .i64 40] : List Value), 0⟩]
abbrev K45m4 (a : Option Addr) : TM := [(tA 5 [.int .i64 0, .int .i64 4]), (tS 4 a 3 3), (tP 0 0 0)]
set_option maxRecDepth 100000 in
set_option maxHeartbeats 4000000 in
theorem law_line_ok (n : Nat) {h : Heap} {w : World} (hh : Has h w)  {r : Route} (H : law_line n  = some r) :
  Calls Try.prog 45 #[] w (Ret (fun h v => ∃ cs, v = .agg cs.toArray ∧ rep h r cs) h w) := by
 refine enter 13 [] Try.func45 rfl rfl rfl rfl fun t hk => ?_
 have hm := Mem.begin h w hh
 unfold law_line at H
 refine wp_seq (wp_region_from (wl fun K hK => ?_))
 refine wa K45c1 hk hm fun d aw a3 (an : Kn 13 [(d, 0)] [(tP 0 0 0)] aw) (ae : Mem ⟨w, h, noX⟩ h [(d, 0)] [⟨K45c1, some 43⟩] [] a3) => hK _ _ ?_
 refine wf (wp_seq (wp_region_from (Rk 0 3 [(tA 3 [.int .i64 10, .int .i64 12]), (tA 2 [.int .i64 5, .int .i64 15]), (tA 1 [.int .i64 10, .int .i64 10]), (tP 0 0 0)] an ae fun a6 ao => ?_)))
 refine wl fun K hK => ?_
 refine wS 39 2 [.int .i64 10, .int .i64 10, .int .i64 5, .int .i64 15, .int .i64 10, .int .i64 12] ao ae fun a az a0 (af : Kn 13 [(d, 0)] [(tS 4 a 3 3), (tA 3 [.int .i64 10, .int .i64 12]), (tA 2 [.int .i64 5, .int .i64 15]), (tA 1 [.int .i64 10, .int .i64 10]), (tP 0 0 0)] az) (aa : Mem ⟨w, h, noX⟩ h [(d, 0)] [⟨K45c1, some 43⟩] [⟨a, 3, 3, 39, 2, ([.int .i64 10, .int .i64 10, .int .i64 5, .int .i64 15, .int .i64 10, .int .i64 12] : List Value), 0⟩] a0) => ?_
 have k : Cells h ([(Rg.mk 10 10), (Rg.mk 5 15), (Rg.mk 10 12)] : List Rg) ([.int .i64 10, .int .i64 10, .int .i64 5, .int .i64 15, .int .i64 10, .int .i64 12] : List Value) := ⟨_, _, rfl, ((rep_pair rep_int rep_int) : rep h ((Rg.mk 10 10) : Rg) _), ⟨_, _, rfl, ((rep_pair rep_int rep_int) : rep h ((Rg.mk 5 15) : Rg) _), ⟨_, _, rfl, ((rep_pair rep_int rep_int) : rep h ((Rg.mk 10 12) : Rg) _), rfl⟩⟩⟩
 refine hK _ _ ?_
 refine Rk 4 4 ((tA 8 [.int .i64 0, .int .i64 10, .int .i64 20]) :: (tA 6 [.int .i64 0, .int .i64 0, .int .i64 0]) :: (K45m4 a)) af aa fun a4 ag => ?_
 refine wl fun K hK => ?_
 refine wS 96 3 [.int .i64 0, .int .i64 0, .int .i64 0, .int .i64 0, .int .i64 10, .int .i64 20] ag aa fun b av a1 (ah : Kn 13 [(d, 0)] ((tS 9 b 2 2) :: (tA 8 [.int .i64 0, .int .i64 10, .int .i64 20]) :: (tA 6 [.int .i64 0, .int .i64 0, .int .i64 0]) :: (K45m4 a)) av) (ab : Mem ⟨w, h, noX⟩ h [(d, 0)] [⟨K45c1, some 43⟩] [⟨a, 3, 3, 39, 2, ([.int .i64 10, .int .i64 10, .int .i64 5, .int .i64 15, .int .i64 10, .int .i64 12] : List Value), 0⟩, ⟨b, 2, 2, 96, 3, ([.int .i64 0, .int .i64 0, .int .i64 0, .int .i64 0, .int .i64 10, .int .i64 20] : List Value), 0⟩] a1) => ?_
 have l : Cells h ([(Bus.mk 0 (Rg.mk 0 0)), (Bus.mk 0 (Rg.mk 10 20))] : List Bus) ([.int .i64 0, .int .i64 0, .int .i64 0, .int .i64 0, .int .i64 10, .int .i64 20] : List Value) := ⟨_, _, rfl, ((rep_pair rep_int (rep_pair rep_int rep_int)) : rep h ((Bus.mk 0 (Rg.mk 0 0)) : Bus) _), ⟨_, _, rfl, ((rep_pair rep_int (rep_pair rep_int rep_int)) : rep h ((Bus.mk 0 (Rg.mk 10 20)) : Bus) _), rfl⟩⟩
 refine hK _ _ ?_
 refine Rk 9 1 ((tA 10 [.int .i64 2, .int .i64 40]) :: (tS 9 b 2 2) :: (K45m4 a)) ah ab fun a5 ai => ?_
 refine wl fun K hK => ?_
 refine wS 110 2 [.int .i64 2, .int .i64 40] ai ab fun c ax a2 (aj : Kn 13 [(d, 0)] ((tS 11 c 1 1) :: (tA 10 [.int .i64 2, .int .i64 40]) :: (tS 9 b 2 2) :: (K45m4 a)) ax) (ac : Mem ⟨w, h, noX⟩ h [(d, 0)] [⟨K45c1, some 43⟩] (K45r3 a b c) a2) => ?_
 have m : Cells h ([(Spare.mk 2 40)] : List Spare) ([.int .i64 2, .int .i64 40] : List Value) := ⟨_, _, rfl, ((rep_pair rep_int rep_int) : rep h ((Spare.mk 2 40) : Spare) _), rfl⟩
 refine hK _ _ ?_
 refine Rk 11 1 [(tA 12 (K45c2 a b c)), (tP 0 0 0)] aj ac fun ay ak => ?_
 refine wl fun K hK => ?_
 refine wst 0 0 (.agg (K45c2 a b c)) (K45c2 a b c) ak ac fun g al (ad : Mem ⟨w, h, noX⟩ h [(d, 0)] [⟨(K45c2 a b c), some 43⟩] (K45r3 a b c) g) => hK _ _ ?_
 have am : Kn 13 [(d, 0)] [(tP 0 0 0)] ay := al.kp
 refine wf (wp_ret ?_)
 obtain ⟨y, o, aq, e⟩ := ad.settle (i := 0) rfl
 replace k := k.mono o
 replace e : Mem ⟨w, h, noX⟩ y [(d, 0)] [⟨(K45c2 a b c), some 43⟩] [⟨a, 3, 3, 39, 2, ([.int .i64 10, .int .i64 10, .int .i64 5, .int .i64 15, .int .i64 10, .int .i64 12] : List Value), (([.int .i64 10, .int .i64 10, .int .i64 5, .int .i64 15, .int .i64 10, .int .i64 12] : List Value) : List Value).length⟩, ⟨b, 2, 2, 96, 3, ([.int .i64 0, .int .i64 0, .int .i64 0, .int .i64 0, .int .i64 10, .int .i64 20] : List Value), 0⟩, ⟨c, 1, 1, 110, 2, ([.int .i64 2, .int .i64 40] : List Value), 0⟩] g := e
 have u : RepS y a 3 ([(Rg.mk 10 10), (Rg.mk 5 15), (Rg.mk 10 12)] : List Rg) := ⟨_, k, aq, ad.rowCap (i := 0) rfl⟩
 obtain ⟨z, p, ar, f⟩ := e.settle (i := 1) rfl
 replace l := l.mono (Heap.le_trans o p)
 replace f : Mem ⟨w, h, noX⟩ z [(d, 0)] [⟨(K45c2 a b c), some 43⟩] [⟨a, 3, 3, 39, 2, ([.int .i64 10, .int .i64 10, .int .i64 5, .int .i64 15, .int .i64 10, .int .i64 12] : List Value), (([.int .i64 10, .int .i64 10, .int .i64 5, .int .i64 15, .int .i64 10, .int .i64 12] : List Value) : List Value).length⟩, ⟨b, 2, 2, 96, 3, ([.int .i64 0, .int .i64 0, .int .i64 0, .int .i64 0, .int .i64 10, .int .i64 20] : List Value), (([.int .i64 0, .int .i64 0, .int .i64 0, .int .i64 0, .int .i64 10, .int .i64 20] : List Value) : List Value).length⟩, ⟨c, 1, 1, 110, 2, ([.int .i64 2, .int .i64 40] : List Value), 0⟩] g := f
 have x : RepS z b 2 ([(Bus.mk 0 (Rg.mk 0 0)), (Bus.mk 0 (Rg.mk 10 20))] : List Bus) := ⟨_, l, ar, e.rowCap (i := 1) rfl⟩
 obtain ⟨j, q, au, s⟩ := f.settle (i := 2) rfl
 replace u := u.mono (Heap.le_trans p q)
 replace x := x.mono q
 replace m := m.mono (Heap.le_trans (Heap.le_trans o p) q)
 replace s : Mem ⟨w, h, noX⟩ j [(d, 0)] [⟨(K45c2 a b c), some 43⟩] [⟨a, 3, 3, 39, 2, ([.int .i64 10, .int .i64 10, .int .i64 5, .int .i64 15, .int .i64 10, .int .i64 12] : List Value), (([.int .i64 10, .int .i64 10, .int .i64 5, .int .i64 15, .int .i64 10, .int .i64 12] : List Value) : List Value).length⟩, ⟨b, 2, 2, 96, 3, ([.int .i64 0, .int .i64 0, .int .i64 0, .int .i64 0, .int .i64 10, .int .i64 20] : List Value), (([.int .i64 0, .int .i64 0, .int .i64 0, .int .i64 0, .int .i64 10, .int .i64 20] : List Value) : List Value).length⟩, ⟨c, 1, 1, 110, 2, ([.int .i64 2, .int .i64 40] : List Value), (([.int .i64 2, .int .i64 40] : List Value) : List Value).length⟩] g := s
 have ap : RepS j c 1 ([(Spare.mk 2 40)] : List Spare) := ⟨_, m, au, f.rowCap (i := 2) rfl⟩
 obtain rfl := Option.some.inj H
 exact rt (.one (.agg (K45c2 a b c))) am s ⟨_, rfl, ((rep_pair (rep_slice u) (rep_pair (rep_pair rep_int rep_int) (rep_pair (rep_slice x) (rep_pair (rep_slice ap) (rep_pair rep_int (rep_pair rep_int (rep_pair rep_int rep_int))))))) : rep j ((Route.mk ([(Rg.mk 10 10), (Rg.mk 5 15), (Rg.mk 10 12)] : List Rg) (Rg.mk 0 4) ([(Bus.mk 0 (Rg.mk 0 0)), (Bus.mk 0 (Rg.mk 10 20))] : List Bus) ([(Spare.mk 2 40)] : List Spare) 5 37 0 50) : Route) _)⟩
abbrev K46c1 (a b c : Option Addr) : List SC := [.slice a 2 2, .slice b 2 2, .slice c 1 1]
abbrev K46c2 : List SC := [.slice none 0 0, .slice none 0 0, .slice none 0 0]
abbrev K46r3 (a b c : Option Addr) : List Row := [⟨a, 2, 2, 3, 1, ([.int .i64 0, .int .i64 0] : List Value), 0⟩, ⟨b, 2, 2, 3, 1, ([.int .i64 (-1), .int .i64 (-1)] : List Value), 0⟩, ⟨c, 1, 1, 4, 1, ([.bool false] : List Value), 0⟩]
set_option maxRecDepth 100000 in
set_option maxHeartbeats 4000000 in
theorem law_free_ok (n : Nat) {h : Heap} {w : World} (hh : Has h w)  {r : Acts} (H : law_free n  = some r) :
  Calls Try.prog 46 #[] w (Ret (fun h v => ∃ cs, v = .agg cs.toArray ∧ rep h r cs) h w) := by
 refine enter 5 [] Try.func46 rfl rfl rfl rfl fun t hk => ?_
 have hm := Mem.begin h w hh
 unfold law_free at H
 refine wp_seq (wp_region_from (wl fun K hK => ?_))
 refine wa K46c2 hk hm fun d au az (ah : Kn 5 [(d, 0)] [(tP 0 0 0)] au) (al : Mem ⟨w, h, noX⟩ h [(d, 0)] [⟨K46c2, some 34⟩] [] az) => hK _ _ ?_
 refine wf (wp_seq (wp_region_from (wl fun K hK => ?_)))
 refine wS 3 1 [.int .i64 0, .int .i64 0] ah al fun a aw a0 (ai : Kn 5 [(d, 0)] [(tS 1 a 2 2), (tP 0 0 0)] aw) (aj : Mem ⟨w, h, noX⟩ h [(d, 0)] [⟨K46c2, some 34⟩] [⟨a, 2, 2, 3, 1, ([.int .i64 0, .int .i64 0] : List Value), 0⟩] a0) => ?_
 have k : Cells h ([0, 0] : List Int) ([.int .i64 0, .int .i64 0] : List Value) := ⟨_, _, rfl, (rep_int : rep h (0 : Int) _), ⟨_, _, rfl, (rep_int : rep h (0 : Int) _), rfl⟩⟩
 refine hK _ _ ?_
 refine wl fun K hK => ?_
 refine wS 3 1 [.int .i64 (-1), .int .i64 (-1)] ai aj fun b aq ax (ac : Kn 5 [(d, 0)] [(tS 2 b 2 2), (tS 1 a 2 2), (tP 0 0 0)] aq) (ak : Mem ⟨w, h, noX⟩ h [(d, 0)] [⟨K46c2, some 34⟩] [⟨a, 2, 2, 3, 1, ([.int .i64 0, .int .i64 0] : List Value), 0⟩, ⟨b, 2, 2, 3, 1, ([.int .i64 (-1), .int .i64 (-1)] : List Value), 0⟩] ax) => ?_
 have l : Cells h ([(-1), (-1)] : List Int) ([.int .i64 (-1), .int .i64 (-1)] : List Value) := ⟨_, _, rfl, (rep_int : rep h ((-1) : Int) _), ⟨_, _, rfl, (rep_int : rep h ((-1) : Int) _), rfl⟩⟩
 refine hK _ _ ?_
 refine wl fun K hK => ?_
 refine wS 4 1 [.bool false] ac ak fun c ar ay (ad : Kn 5 [(d, 0)] [(tS 3 c 1 1), (tS 2 b 2 2), (tS 1 a 2 2), (tP 0 0 0)] ar) (aa : Mem ⟨w, h, noX⟩ h [(d, 0)] [⟨K46c2, some 34⟩] (K46r3 a b c) ay) => ?_
 have m : Cells h ([false] : List Bool) ([.bool false] : List Value) := ⟨_, _, rfl, (rep_bool : rep h (false : Bool) _), rfl⟩
 refine hK _ _ ?_
 refine Rk 3 1 [(tA 4 (K46c1 a b c)), (tP 0 0 0)] ad aa fun av ae => ?_
 refine wl fun K hK => ?_
 refine wst 0 0 (.agg (K46c1 a b c)) (K46c1 a b c) ae aa fun g af (ab : Mem ⟨w, h, noX⟩ h [(d, 0)] [⟨(K46c1 a b c), some 34⟩] (K46r3 a b c) g) => hK _ _ ?_
 have ag : Kn 5 [(d, 0)] [(tP 0 0 0)] av := af.kp
 refine wf (wp_ret ?_)
 obtain ⟨y, o, an, e⟩ := ab.settle (i := 0) rfl
 replace k := k.mono o
 replace e : Mem ⟨w, h, noX⟩ y [(d, 0)] [⟨(K46c1 a b c), some 34⟩] [⟨a, 2, 2, 3, 1, ([.int .i64 0, .int .i64 0] : List Value), (([.int .i64 0, .int .i64 0] : List Value) : List Value).length⟩, ⟨b, 2, 2, 3, 1, ([.int .i64 (-1), .int .i64 (-1)] : List Value), 0⟩, ⟨c, 1, 1, 4, 1, ([.bool false] : List Value), 0⟩] g := e
 have u : RepS y a 2 ([0, 0] : List Int) := ⟨_, k, an, ab.rowCap (i := 0) rfl⟩
 obtain ⟨z, p, ao, f⟩ := e.settle (i := 1) rfl
 replace l := l.mono (Heap.le_trans o p)
 replace f : Mem ⟨w, h, noX⟩ z [(d, 0)] [⟨(K46c1 a b c), some 34⟩] [⟨a, 2, 2, 3, 1, ([.int .i64 0, .int .i64 0] : List Value), (([.int .i64 0, .int .i64 0] : List Value) : List Value).length⟩, ⟨b, 2, 2, 3, 1, ([.int .i64 (-1), .int .i64 (-1)] : List Value), (([.int .i64 (-1), .int .i64 (-1)] : List Value) : List Value).length⟩, ⟨c, 1, 1, 4, 1, ([.bool false] : List Value), 0⟩] g := f
 have x : RepS z b 2 ([(-1), (-1)] : List Int) := ⟨_, l, ao, e.rowCap (i := 1) rfl⟩
 obtain ⟨j, q, ap, s⟩ := f.settle (i := 2) rfl
 replace u := u.mono (Heap.le_trans p q)
 replace x := x.mono q
 replace m := m.mono (Heap.le_trans (Heap.le_trans o p) q)
 replace s : Mem ⟨w, h, noX⟩ j [(d, 0)] [⟨(K46c1 a b c), some 34⟩] [⟨a, 2, 2, 3, 1, ([.int .i64 0, .int .i64 0] : List Value), (([.int .i64 0, .int .i64 0] : List Value) : List Value).length⟩, ⟨b, 2, 2, 3, 1, ([.int .i64 (-1), .int .i64 (-1)] : List Value), (([.int .i64 (-1), .int .i64 (-1)] : List Value) : List Value).length⟩, ⟨c, 1, 1, 4, 1, ([.bool false] : List Value), (([.bool false] : List Value) : List Value).length⟩] g := s
 have am : RepS j c 1 ([false] : List Bool) := ⟨_, m, ap, f.rowCap (i := 2) rfl⟩
 obtain rfl := Option.some.inj H
 exact rt (.one (.agg (K46c1 a b c))) ag s ⟨_, rfl, ((rep_pair (rep_slice u) (rep_pair (rep_slice x) (rep_slice am))) : rep j ((Acts.mk ([0, 0] : List Int) ([(-1), (-1)] : List Int) ([false] : List Bool)) : Acts) _)⟩
abbrev K48c1 (a b c : Option Addr) : List SC := [.slice a 2 2, .slice b 2 2, .slice c 1 1]
abbrev K48c2 : List SC := [.slice none 0 0, .slice none 0 0, .slice none 0 0]
abbrev K48r3 (a b c : Option Addr) : List Row := [⟨a, 2, 2, 3, 1, ([.int .i64 0, .int .i64 1] : List Value), 0⟩, ⟨b, 2, 2, 3, 1, ([.int .i64 (-1), .int .i64 (-1)] : List Value), 0⟩, ⟨c, 1, 1, 4, 1, ([.bool false] : List Value), 0⟩]
set_option maxRecDepth 100000 in
set_option maxHeartbeats 4000000 in
theorem law_held_ok (n : Nat) {h : Heap} {w : World} (hh : Has h w)  {r : Acts} (H : law_held n  = some r) :
  Calls Try.prog 48 #[] w (Ret (fun h v => ∃ cs, v = .agg cs.toArray ∧ rep h r cs) h w) := by
 refine enter 5 [] Try.func48 rfl rfl rfl rfl fun t hk => ?_
 have hm := Mem.begin h w hh
 unfold law_held at H
 refine wp_seq (wp_region_from (wl fun K hK => ?_))
 refine wa K48c2 hk hm fun d au az (ah : Kn 5 [(d, 0)] [(tP 0 0 0)] au) (al : Mem ⟨w, h, noX⟩ h [(d, 0)] [⟨K48c2, some 34⟩] [] az) => hK _ _ ?_
 refine wf (wp_seq (wp_region_from (wl fun K hK => ?_)))
 refine wS 3 1 [.int .i64 0, .int .i64 1] ah al fun a aw a0 (ai : Kn 5 [(d, 0)] [(tS 1 a 2 2), (tP 0 0 0)] aw) (aj : Mem ⟨w, h, noX⟩ h [(d, 0)] [⟨K48c2, some 34⟩] [⟨a, 2, 2, 3, 1, ([.int .i64 0, .int .i64 1] : List Value), 0⟩] a0) => ?_
 have k : Cells h ([0, 1] : List Int) ([.int .i64 0, .int .i64 1] : List Value) := ⟨_, _, rfl, (rep_int : rep h (0 : Int) _), ⟨_, _, rfl, (rep_int : rep h (1 : Int) _), rfl⟩⟩
 refine hK _ _ ?_
 refine wl fun K hK => ?_
 refine wS 3 1 [.int .i64 (-1), .int .i64 (-1)] ai aj fun b aq ax (ac : Kn 5 [(d, 0)] [(tS 2 b 2 2), (tS 1 a 2 2), (tP 0 0 0)] aq) (ak : Mem ⟨w, h, noX⟩ h [(d, 0)] [⟨K48c2, some 34⟩] [⟨a, 2, 2, 3, 1, ([.int .i64 0, .int .i64 1] : List Value), 0⟩, ⟨b, 2, 2, 3, 1, ([.int .i64 (-1), .int .i64 (-1)] : List Value), 0⟩] ax) => ?_
 have l : Cells h ([(-1), (-1)] : List Int) ([.int .i64 (-1), .int .i64 (-1)] : List Value) := ⟨_, _, rfl, (rep_int : rep h ((-1) : Int) _), ⟨_, _, rfl, (rep_int : rep h ((-1) : Int) _), rfl⟩⟩
 refine hK _ _ ?_
 refine wl fun K hK => ?_
 refine wS 4 1 [.bool false] ac ak fun c ar ay (ad : Kn 5 [(d, 0)] [(tS 3 c 1 1), (tS 2 b 2 2), (tS 1 a 2 2), (tP 0 0 0)] ar) (aa : Mem ⟨w, h, noX⟩ h [(d, 0)] [⟨K48c2, some 34⟩] (K48r3 a b c) ay) => ?_
 have m : Cells h ([false] : List Bool) ([.bool false] : List Value) := ⟨_, _, rfl, (rep_bool : rep h (false : Bool) _), rfl⟩
 refine hK _ _ ?_
 refine Rk 3 1 [(tA 4 (K48c1 a b c)), (tP 0 0 0)] ad aa fun av ae => ?_
 refine wl fun K hK => ?_
 refine wst 0 0 (.agg (K48c1 a b c)) (K48c1 a b c) ae aa fun g af (ab : Mem ⟨w, h, noX⟩ h [(d, 0)] [⟨(K48c1 a b c), some 34⟩] (K48r3 a b c) g) => hK _ _ ?_
 have ag : Kn 5 [(d, 0)] [(tP 0 0 0)] av := af.kp
 refine wf (wp_ret ?_)
 obtain ⟨y, o, an, e⟩ := ab.settle (i := 0) rfl
 replace k := k.mono o
 replace e : Mem ⟨w, h, noX⟩ y [(d, 0)] [⟨(K48c1 a b c), some 34⟩] [⟨a, 2, 2, 3, 1, ([.int .i64 0, .int .i64 1] : List Value), (([.int .i64 0, .int .i64 1] : List Value) : List Value).length⟩, ⟨b, 2, 2, 3, 1, ([.int .i64 (-1), .int .i64 (-1)] : List Value), 0⟩, ⟨c, 1, 1, 4, 1, ([.bool false] : List Value), 0⟩] g := e
 have u : RepS y a 2 ([0, 1] : List Int) := ⟨_, k, an, ab.rowCap (i := 0) rfl⟩
 obtain ⟨z, p, ao, f⟩ := e.settle (i := 1) rfl
 replace l := l.mono (Heap.le_trans o p)
 replace f : Mem ⟨w, h, noX⟩ z [(d, 0)] [⟨(K48c1 a b c), some 34⟩] [⟨a, 2, 2, 3, 1, ([.int .i64 0, .int .i64 1] : List Value), (([.int .i64 0, .int .i64 1] : List Value) : List Value).length⟩, ⟨b, 2, 2, 3, 1, ([.int .i64 (-1), .int .i64 (-1)] : List Value), (([.int .i64 (-1), .int .i64 (-1)] : List Value) : List Value).length⟩, ⟨c, 1, 1, 4, 1, ([.bool false] : List Value), 0⟩] g := f
 have x : RepS z b 2 ([(-1), (-1)] : List Int) := ⟨_, l, ao, e.rowCap (i := 1) rfl⟩
 obtain ⟨j, q, ap, s⟩ := f.settle (i := 2) rfl
 replace u := u.mono (Heap.le_trans p q)
 replace x := x.mono q
 replace m := m.mono (Heap.le_trans (Heap.le_trans o p) q)
 replace s : Mem ⟨w, h, noX⟩ j [(d, 0)] [⟨(K48c1 a b c), some 34⟩] [⟨a, 2, 2, 3, 1, ([.int .i64 0, .int .i64 1] : List Value), (([.int .i64 0, .int .i64 1] : List Value) : List Value).length⟩, ⟨b, 2, 2, 3, 1, ([.int .i64 (-1), .int .i64 (-1)] : List Value), (([.int .i64 (-1), .int .i64 (-1)] : List Value) : List Value).length⟩, ⟨c, 1, 1, 4, 1, ([.bool false] : List Value), (([.bool false] : List Value) : List Value).length⟩] g := s
 have am : RepS j c 1 ([false] : List Bool) := ⟨_, m, ap, f.rowCap (i := 2) rfl⟩
 obtain rfl := Option.some.inj H
 exact rt (.one (.agg (K48c1 a b c))) ag s ⟨_, rfl, ((rep_pair (rep_slice u) (rep_pair (rep_slice x) (rep_slice am))) : rep j ((Acts.mk ([0, 1] : List Int) ([(-1), (-1)] : List Int) ([false] : List Bool)) : Acts) _)⟩
end Go.Proofs.Ytokchpjijlebiaa
