/- Each call computes its plain function: printed by dec.py. -/
import Derived.Test.YtokchpjijlebiaaProg
import Derived.Test.YtokchpjijlebiaaPure
import Derived.Test.YtokchpjijlebiaaWalkA
set_option linter.all false
namespace Go.Proofs.Ytokchpjijlebiaa
open Go Go.RowKit
open Rep (rep)
open KRep (kv)
open VRep (rv)
set_option maxRecDepth 100000 in
set_option maxHeartbeats 4000000 in
theorem law_list_ok (n : Nat) {h : Heap} {w : World} (hh : Has h w) (l : List Int) {a_l : Option Addr} {c_l : Nat} (hr_l : RepS h a_l c_l l) {r : List Int} (H : law_list n l = some r) :
  Calls Try.prog 29 #[.slice a_l l.length c_l] w (Ret (fun h v => ∃ a c, v = .slice a r.length c ∧ RepS h a c r) h w) := by
 refine enter 5 [.c (.slice a_l l.length c_l)] Try.func29 rfl rfl rfl rfl fun t hk => ?_
 have hm := Mem.begin h w hh
 unfold law_list at H
 refine wp_seq (wp_region_from (R_runk 0 1 [0] [(tS 0 a_l l.length c_l)] hk hm.plOk (by kernel_rfl) fun ai z => ?_))
 refine wpFrom_end (by decide) (wp_seq (wp_region_from (R_runk 0 1 [3] [(tS 3 a_l l.length c_l)] z hm.plOk (by kernel_rfl) fun ak ab => ?_)))
 have q : Mem ⟨w, h, noX⟩ h [] [] [⟨none, 0, 0, 3, 1, [], 0⟩] w := hm.nilRow 3 1
 have u : Cells h ([] : List Int) [] := Cells.nil
 obtain ⟨e, f, ag, _⟩ := id hr_l
 obtain ⟨x4, ex4, H⟩ := bnd H
 obtain ⟨m, ac⟩ := app_some ex4
 refine wpFrom_loud _ rfl (rfl) fun K hK => ?_
 refine wp_append 0 8 l.length _ (x4.length) _ e ab q rfl rfl (by decide) rfl (by rfl) (by kernel_rfl) (by rfl) (by rfl) (Cells.len f) (ag.cell q.has f.one) f.one (by rw [m]; simp) (by rw [m]; exact ac) (by decide) fun b d o ah s x (y : Kn 5 [] [(4, .one (.c (.slice b x4.length d))), (3, .one (.c (.slice a_l l.length c_l)))] ah) (j : Mem ⟨w, h, noX⟩ h [] [] [⟨b, x4.length, d, 3, 1, ([] ++ e), o⟩] s) => ?_
 have g : Cells h x4 ([] ++ e) := by rw [m]; exact Cells.append u f
 obtain rfl : o = 0 := Nat.le_zero.1 x
 refine hK _ _ ?_
 refine R_runk 2 1 [2] [(tS 2 b x4.length d)] y j.plOk (by kernel_rfl) fun aj aa => ?_
 refine wpFrom_end (by decide) (wp_ret ?_)
 obtain ⟨p, ad, af, k⟩ := j.settle (i := 0) rfl
 replace g := g.mono ad
 replace k : Mem ⟨w, h, noX⟩ p [] [] [⟨b, x4.length, d, 3, 1, ([] ++ e), (([] ++ e) : List Value).length⟩] s := k
 have ae : RepS p b d x4 := ⟨_, g, af, j.rowCap (i := 0) rfl⟩
 obtain rfl := Option.some.inj H
 exact ret_ok (.one (.c (.slice b x4.length d))) aa k (by kernel_rfl) ⟨_, _, rfl, ae⟩

set_option maxRecDepth 100000 in
set_option maxHeartbeats 4000000 in
theorem law_list_own (n : Nat) {h : Heap} {w : World} (hh : Has h w) (l : List Int) {a_l : Option Addr} {c_l : Nat} (hr_l : RepS h a_l c_l l) {r : List Int} (H : law_list n l = some r) :
  Calls Try.prog 29 #[.slice a_l l.length c_l] w (RetO (fun h v rs => ∃ (g : Option Addr) (i : Nat) (o : List Value), v = .slice g r.length i ∧ rs = [⟨g, r.length, i, 3, 1, o, 0⟩] ∧ Cells h r o) h w) := by
 refine enter 5 [.c (.slice a_l l.length c_l)] Try.func29 rfl rfl rfl rfl fun t hk => ?_
 have hm := Mem.begin h w hh
 unfold law_list at H
 refine wp_seq (wp_region_from (R_runk 0 1 [0] [(tS 0 a_l l.length c_l)] hk hm.plOk (by kernel_rfl) fun ae x => ?_))
 refine wpFrom_end (by decide) (wp_seq (wp_region_from (R_runk 0 1 [3] [(tS 3 a_l l.length c_l)] x hm.plOk (by kernel_rfl) fun ag z => ?_)))
 have m : Mem ⟨w, h, noX⟩ h [] [] [⟨none, 0, 0, 3, 1, [], 0⟩] w := hm.nilRow 3 1
 have q : Cells h ([] : List Int) [] := Cells.nil
 obtain ⟨f, d, ab, _⟩ := id hr_l
 obtain ⟨x4, ex4, H⟩ := bnd H
 obtain ⟨e, aa⟩ := app_some ex4
 refine wpFrom_loud _ rfl (rfl) fun K hK => ?_
 refine wp_append 0 8 l.length _ (x4.length) _ f z m rfl rfl (by decide) rfl (by rfl) (by kernel_rfl) (by rfl) (by rfl) (Cells.len d) (ab.cell m.has d.one) d.one (by rw [e]; simp) (by rw [e]; exact aa) (by decide) fun a b j ac ad s (u : Kn 5 [] [(4, .one (.c (.slice a x4.length b))), (3, .one (.c (.slice a_l l.length c_l)))] ac) (k : Mem ⟨w, h, noX⟩ h [] [] [⟨a, x4.length, b, 3, 1, ([] ++ f), j⟩] ad) => ?_
 have p : Cells h x4 ([] ++ f) := by rw [e]; exact Cells.append q d
 obtain rfl : j = 0 := Nat.le_zero.1 s
 refine hK _ _ ?_
 refine R_runk 2 1 [2] [(tS 2 a x4.length b)] u k.plOk (by kernel_rfl) fun af y => ?_
 refine wpFrom_end (by decide) (wp_ret ?_)
 obtain rfl := Option.some.inj H
 exact retO_ok (.one (.c (.slice a x4.length b))) [0] y k (by kernel_rfl) (by kernel_rfl) (by kernel_rfl) ⟨_, _, _, rfl, rfl, p⟩

abbrev K23c1 : List SC := [.slice none 0 0, .slice none 0 0, .slice none 0 0]
abbrev K23c2 (b : Option Addr) (a : Acts) (e : Nat) (d : Option Addr) (f : Nat) (g : Option Addr) (j : Nat) : List SC := [.slice b a.holds.length e, .slice d a.turns.length f, .slice g a.spares.length j]
set_option maxRecDepth 100000 in
set_option maxHeartbeats 4000000 in
theorem law_Acts_ok (n : Nat) {h : Heap} {w : World} (hh : Has h w) (a : Acts) {cs_a : List Value} (hx_a : rep h a cs_a) {r : Acts} (H : law_Acts n a = some r) :
  Calls Try.prog 23 #[.agg cs_a.toArray] w (Ret (fun h v => ∃ cs, v = .agg cs.toArray ∧ rep h r cs) h w) := by
 obtain ⟨_, _, rfl, ⟨b, e, rfl, x⟩, ⟨_, _, rfl, ⟨d, f, rfl, y⟩, ⟨g, j, rfl, z⟩⟩⟩ := hx_a
 refine enter 13 [.agg (K23c2 b a e d f g j)] Try.func23 rfl rfl rfl rfl fun t hk => ?_
 have hm := Mem.begin h w hh
 unfold law_Acts at H
 refine wp_seq (wp_region_from (wpFrom_loud _ rfl (rfl) fun K hK => ?_))
 refine wp_box (.agg (K23c2 b a e d f g j)) hk hm rfl rfl (by decide) (by kernel_rfl) (by kernel_rfl) (by kernel_rfl) fun k bg bl (a1 : Kn 13 [(k, 0)] [(tP 1 0 0), (tA 0 (K23c2 b a e d f g j))] bg) (bc : Mem ⟨w, h, noX⟩ h [(k, 0)] [⟨(K23c2 b a e d f g j), some 50⟩] [] bl) => hK _ _ ?_
 refine wpFrom_loud _ rfl (rfl) fun K hK => ?_
 refine wp_alloc K23c1 a1 bc rfl rfl (by decide) (by kernel_rfl) (by kernel_rfl) (by kernel_rfl) fun l av bm (a2 : Kn 13 [(k, 0), (l, 0)] [(tP 2 1 0), (tP 1 0 0), (tA 0 (K23c2 b a e d f g j))] av) (ad : Mem ⟨w, h, noX⟩ h [(k, 0), (l, 0)] [⟨(K23c2 b a e d f g j), some 50⟩, ⟨K23c1, some 34⟩] [] bm) => hK _ _ ?_
 have a3 : Kn 13 [(k, 0), (l, 0)] [(tP 2 1 0), (tP 1 0 0)] av := a2.keep [2, 1] (by rfl)
 refine wpFrom_end (by decide) (wp_seq (wp_region_G (by kernel_rfl) ?_))
 replace ad := ad.drew
 refine wpG_of_D [] [(k, 0), (l, 0)] [⟨(K23c2 b a e d f g j), some 50⟩, ⟨K23c1, some 34⟩] ?_
 refine D_run [0, 1, 3, 4, 6, 7] [7, 6, 4, 3, 1, 0] [10, 7, 4, 2] [(tS 10 g a.spares.length j), (tS 7 d a.turns.length f), (tS 4 b a.holds.length e), (tP 2 1 0)] (fun _ _ _ _ _ h => h) a3 ad.plOk (by kernel_rfl) (by rfl) (by kernel_rfl) fun bq a4 => ?_
 obtain ⟨x5, ex5, H⟩ := bnd H
 refine D_loud 2 rfl (by kernel_rfl) (by decide) (rfl) fun K hK => ?_
 refine wp_call [.c (.slice b a.holds.length e)] _ a4 ad rfl rfl (by decide) (by rfl) rfl (fun _ _ => by kernel_rfl) (law_list_ok n ad.has a.holds x ex5) fun br bp bt ax aj ak => ?_
 replace x := x.mono aj
 replace y := y.mono aj
 replace z := z.mono aj
 obtain ⟨p, q, rfl, ae⟩ := ax
 refine ⟨.one (.c (.slice p x5.length q)), rfl, fun bh (a5 : Kn 13 [(k, 0), (l, 0)] [(tS 5 p x5.length q), (tS 10 g a.spares.length j), (tS 7 d a.turns.length f), (tS 4 b a.holds.length e), (tP 2 1 0)] bh) => hK _ _ ak.plOk ?_⟩
 obtain ⟨x8, ex8, H⟩ := bnd H
 refine D_loud 5 rfl (by kernel_rfl) (by decide) (rfl) fun K hK => ?_
 refine wp_call [.c (.slice d a.turns.length f)] _ a5 ak rfl rfl (by decide) (by rfl) rfl (fun _ _ => by kernel_rfl) (law_list_ok n ak.has a.turns y ex8) fun bs ac bn ay ag aq => ?_
 replace x := x.mono ag
 replace y := y.mono ag
 replace z := z.mono ag
 replace ae := ae.mono ag
 obtain ⟨s, u, rfl, an⟩ := ay
 refine ⟨.one (.c (.slice s x8.length u)), rfl, fun bi (a6 : Kn 13 [(k, 0), (l, 0)] [(tS 8 s x8.length u), (tS 5 p x5.length q), (tS 10 g a.spares.length j), (tS 7 d a.turns.length f), (tS 4 b a.holds.length e), (tP 2 1 0)] bi) => hK _ _ aq.plOk ?_⟩
 have ar : Mem ⟨w, h, noX⟩ ac [(k, 0), (l, 0)] [⟨(K23c2 b a e d f g j), some 50⟩, ⟨K23c1, some 34⟩] [⟨none, 0, 0, 4, 1, [], 0⟩] bn := aq.nilRow 4 1
 have az : Cells ac ([] : List Bool) [] := Cells.nil
 obtain ⟨ab, af, bf, _⟩ := id z
 obtain ⟨x11, ex11, H⟩ := bnd H
 obtain ⟨ao, bb⟩ := app_some ex11
 refine D_loud 8 rfl (by kernel_rfl) (by decide) (rfl) fun K hK => ?_
 refine wp_append 0 1 a.spares.length _ (x11.length) _ ab a6 ar rfl rfl (by decide) rfl (by rfl) (by kernel_rfl) (by rfl) (by rfl) (Cells.len af) (bf.cell ar.has af.one) af.one (by rw [ao]; simp) (by rw [ao]; exact bb) (by decide) fun m o ap bj bo a0 (a7 : Kn 13 [(k, 0), (l, 0)] [(11, .one (.c (.slice m x11.length o))), (8, .one (.c (.slice s x8.length u))), (5, .one (.c (.slice p x5.length q))), (10, .one (.c (.slice g a.spares.length j))), (7, .one (.c (.slice d a.turns.length f))), (4, .one (.c (.slice b a.holds.length e))), (2, .one (.c (.ptr 1 0)))] bj) (al : Mem ⟨w, h, noX⟩ ac [(k, 0), (l, 0)] [⟨[.slice b a.holds.length e, .slice d a.turns.length f, .slice g a.spares.length j], some 50⟩, ⟨[.slice none 0 0, .slice none 0 0, .slice none 0 0], some 34⟩] [⟨m, x11.length, o, 4, 1, ([] ++ ab), ap⟩] bo) => ?_
 have ai : Cells ac x11 ([] ++ ab) := by rw [ao]; exact Cells.append az af
 obtain rfl : ap = 0 := Nat.le_zero.1 a0
 refine hK _ _ al.plOk ?_
 refine D_run [9] [9, 8, 5, 2, 7, 6, 4, 3, 1, 0] [12, 2] [(tA 12 [.slice p x5.length q, .slice s x8.length u, .slice m x11.length o]), (tP 2 1 0)] (fun _ _ _ _ _ h => h) a7 al.plOk (by kernel_rfl) (by rfl) (by kernel_rfl) fun bk a8 => ?_
 refine D_sync 10 rfl (by kernel_rfl) (by decide) (rfl) (by kernel_rfl) fun K hK => ?_
 refine wp_store 1 0 (.agg [.slice p x5.length q, .slice s x8.length u, .slice m x11.length o]) [.slice p x5.length q, .slice s x8.length u, .slice m x11.length o] a8 al rfl rfl (by rfl) (by rfl) (by rfl) (by kernel_rfl) (by kernel_rfl) (by rfl) fun aw a9 (au : Mem ⟨w, h, noX⟩ ac [(k, 0), (l, 0)] [⟨(K23c2 b a e d f g j), some 50⟩, ⟨[.slice p x5.length q, .slice s x8.length u, .slice m x11.length o], some 34⟩] [⟨m, x11.length, o, 4, 1, ([] ++ ab), 0⟩] aw) => hK _ _ ?_
 have ba : Kn 13 [(k, 0), (l, 0)] [(tP 2 1 0)] bk := a9.keep [2] (by rfl)
 refine wpG_end (by kernel_rfl) (wp_ret ?_)
 obtain ⟨ah, aa, be, am⟩ := au.settle (i := 0) rfl
 replace x := x.mono aa
 replace y := y.mono aa
 replace z := z.mono aa
 replace ae := ae.mono aa
 replace an := an.mono aa
 replace ai := ai.mono aa
 replace am : Mem ⟨w, h, noX⟩ ah [(k, 0), (l, 0)] [⟨(K23c2 b a e d f g j), some 50⟩, ⟨[.slice p x5.length q, .slice s x8.length u, .slice m x11.length o], some 34⟩] [⟨m, x11.length, o, 4, 1, ([] ++ ab), (([] ++ ab) : List Value).length⟩] aw := am
 have bd : RepS ah m o x11 := ⟨_, ai, be, au.rowCap (i := 0) rfl⟩
 obtain rfl := Option.some.inj H
 exact ret_ok (.one (.agg [.slice p x5.length q, .slice s x8.length u, .slice m x11.length o])) ba am (by kernel_rfl) ⟨_, rfl, ((rep_pair (rep_slice ae) (rep_pair (rep_slice an) (rep_slice bd))) : rep ah ((Acts.mk x5 x8 x11) : Acts) _)⟩

abbrev K22c1 (f : Option Addr) (a : Acts) (i : Nat) (g : Option Addr) (k : Nat) (o : Option Addr) (s : Nat) : List SC := [.slice f a.holds.length i, .slice g a.turns.length k, .slice o a.spares.length s]
abbrev K22c2 (l : Option Addr) (b : Acts) (p : Nat) (m : Option Addr) (q : Nat) (u : Option Addr) (x : Nat) : List SC := [.slice l b.holds.length p, .slice m b.turns.length q, .slice u b.spares.length x]
abbrev K22m3 : TM := [(tP 3 1 0), (tP 2 0 0)]
set_option maxRecDepth 100000 in
set_option maxHeartbeats 4000000 in
theorem law_acts_ok (n : Nat) {h : Heap} {w : World} (hh : Has h w) (a : Acts) {cs_a : List Value} (hx_a : rep h a cs_a) (b : Acts) {cs_b : List Value} (hx_b : rep h b cs_b) {r : Bool} (H : law_acts n a b = some r) :
  Calls Try.prog 22 #[.agg cs_a.toArray, .agg cs_b.toArray] w (Ret (fun h v => v = .bool r) h w) := by
 obtain ⟨_, _, rfl, ⟨f, i, rfl, ad⟩, ⟨_, _, rfl, ⟨g, k, rfl, ae⟩, ⟨o, s, rfl, af⟩⟩⟩ := hx_a
 obtain ⟨_, _, rfl, ⟨l, p, rfl, aa⟩, ⟨_, _, rfl, ⟨m, q, rfl, ab⟩, ⟨u, x, rfl, ac⟩⟩⟩ := hx_b
 refine enter 47 [.agg (K22c1 f a i g k o s), .agg (K22c2 l b p m q u x)] Try.func22 rfl rfl rfl rfl fun t hk => ?_
 have hm := Mem.begin h w hh
 unfold law_acts at H
 refine wp_seq (wp_region_from (wpFrom_loud _ rfl (rfl) fun K hK => ?_))
 refine wp_box (.agg (K22c1 f a i g k o s)) hk hm rfl rfl (by decide) (by kernel_rfl) (by kernel_rfl) (by kernel_rfl) fun d cw c0 (b2 : Kn 47 [(d, 0)] [(tP 2 0 0), (tA 0 (K22c1 f a i g k o s)), (tA 1 (K22c2 l b p m q u x))] cw) (cj : Mem ⟨w, h, noX⟩ h [(d, 0)] [⟨(K22c1 f a i g k o s), some 34⟩] [] c0) => hK _ _ ?_
 refine wpFrom_loud _ rfl (rfl) fun K hK => ?_
 refine wp_box (.agg (K22c2 l b p m q u x)) b2 cj rfl rfl (by decide) (by kernel_rfl) (by kernel_rfl) (by kernel_rfl) fun e cx c1 (b3 : Kn 47 [(d, 0), (e, 0)] [(tP 3 1 0), (tP 2 0 0), (tA 0 (K22c1 f a i g k o s)), (tA 1 (K22c2 l b p m q u x))] cx) (aw : Mem ⟨w, h, noX⟩ h [(d, 0), (e, 0)] [⟨(K22c1 f a i g k o s), some 34⟩, ⟨(K22c2 l b p m q u x), some 34⟩] [] c1) => hK _ _ ?_
 refine R_runk 2 1 [3, 2] K22m3 b3 aw.plOk (by kernel_rfl) fun db b4 => ?_
 refine wpFrom_end (by decide) (wp_seq (wp_seq ?_))
 obtain ⟨bi, z, H⟩ := bnd H
 refine wp_mid' (fun a' w' => ∃ (a8 : Array Value) (an : Heap), a' = ⟨a8, []⟩ ∧ Kn 47 [(d, 0), (e, 0)] [(tP 3 1 0), (tP 2 0 0), (tB 28 bi)] a8 ∧ Mem ⟨w, h, noX⟩ an [(d, 0), (e, 0)] [⟨(K22c1 f a i g k o s), some 34⟩, ⟨(K22c2 l b p m q u x), some 34⟩] [] w' ∧ Heap.le h an) ?_ ?_
 ·
  refine wp_region_from (R_runk 0 4 [9, 7, 3, 2] ((tS 9 l b.holds.length p) :: (tS 7 f a.holds.length i) :: K22m3) b4 aw.plOk (by kernel_rfl) fun dc b5 => ?_)
  obtain ⟨x10, ex10, z⟩ := bnd z
  refine wpFrom_loud _ rfl (rfl) fun K hK => ?_
  refine wp_call [.c (.slice f a.holds.length i), .c (.slice l b.holds.length p)] _ b5 aw rfl rfl (by decide) (by rfl) rfl (fun _ _ => by kernel_rfl) (law_ints_ok n aw.has a.holds ad b.holds aa ex10) fun dl c4 dp bo ag am => ?_
  replace ad := ad.mono ag
  replace ae := ae.mono ag
  replace af := af.mono ag
  replace aa := aa.mono ag
  replace ab := ab.mono ag
  replace ac := ac.mono ag
  obtain rfl := bo
  refine ⟨.one (.c (.bool x10)), rfl, fun cy (b6 : Kn 47 [(d, 0), (e, 0)] ((tB 10 x10) :: (tS 9 l b.holds.length p) :: (tS 7 f a.holds.length i) :: K22m3) cy) => hK _ _ ?_⟩
  refine R_runk 5 2 [12, 3, 2] ((tB 12 (!x10)) :: K22m3) b6 am.plOk (by kernel_rfl) fun bl bd => ?_
  rcases Bool.eq_false_or_eq_true ((!x10)) with ap | ap
  ·
   rw [ap, cond_true] at z
   have b7 : Kn 47 [(d, 0), (e, 0)] ((tB 12 true) :: K22m3) bl := (bd.setB 12 true (by rfl) ap).keep [12, 3, 2] (by rfl)
   refine R_runk 7 16 [28, 3, 2] ((tB 28 true) :: K22m3) b7 am.plOk (by kernel_rfl) fun dd b8 => ?_
   refine wpFrom_end (by decide) ?_
   obtain rfl := Option.some.inj z
   exact Exists.intro _ ⟨_, rfl, (b8.keep [3, 2, 28] (by rfl)), am, ag⟩
  ·
   rw [ap, cond_false] at z
   have b9 : Kn 47 [(d, 0), (e, 0)] ((tB 12 false) :: K22m3) bl := (bd.setB 12 false (by rfl) ap).keep [12, 3, 2] (by rfl)
   refine R_runk 7 4 [16, 14, 12, 3, 2] ((tS 16 m b.turns.length q) :: (tS 14 g a.turns.length k) :: (tB 12 false) :: K22m3) b9 am.plOk (by kernel_rfl) fun de be => ?_
   obtain ⟨x17, ex17, z⟩ := bnd z
   refine wpFrom_loud _ rfl (wantedS_sound be (by kernel_rfl)) fun K hK => ?_
   refine wp_call [.c (.slice g a.turns.length k), .c (.slice m b.turns.length q)] _ be am rfl rfl (by decide) (by rfl) rfl (fun _ _ => by kernel_rfl) (law_ints_ok n am.has a.turns ae b.turns ab ex17) fun dm c5 dq bp ah au => ?_
   replace ad := ad.mono ah
   replace ae := ae.mono ah
   replace af := af.mono ah
   replace aa := aa.mono ah
   replace ab := ab.mono ah
   replace ac := ac.mono ah
   obtain rfl := bp
   refine ⟨.one (.c (.bool x17)), rfl, fun cz (ca : Kn 47 [(d, 0), (e, 0)] ((tB 17 x17) :: (tS 16 m b.turns.length q) :: (tS 14 g a.turns.length k) :: (tB 12 false) :: K22m3) cz) => hK _ _ ?_⟩
   refine R_runk 12 3 [20, 3, 2] ((tB 20 (!x17)) :: K22m3) ca au.plOk (by kernel_rfl) fun bm bf => ?_
   rcases Bool.eq_false_or_eq_true ((!x17)) with aq | aq
   ·
    rw [aq, cond_true] at z
    have cb : Kn 47 [(d, 0), (e, 0)] ((tB 20 true) :: K22m3) bm := (bf.setB 20 true (by rfl) aq).keep [20, 3, 2] (by rfl)
    refine R_runk 15 8 [28, 3, 2] ((tB 28 true) :: K22m3) cb au.plOk (by kernel_rfl) fun df cc => ?_
    refine wpFrom_end (by decide) ?_
    obtain rfl := Option.some.inj z
    exact Exists.intro _ ⟨_, rfl, (cc.keep [3, 2, 28] (by rfl)), au, (Heap.le_trans ag ah)⟩
   ·
    rw [aq, cond_false] at z
    have cd : Kn 47 [(d, 0), (e, 0)] ((tB 20 false) :: K22m3) bm := (bf.setB 20 false (by rfl) aq).keep [20, 3, 2] (by rfl)
    refine R_runk 15 8 [28, 3, 2] ((tB 28 (((a.spares.length : Nat) : Int) != ((b.spares.length : Nat) : Int))) :: K22m3) cd au.plOk (by kernel_rfl) fun dg ce => ?_
    refine wpFrom_end (by decide) ?_
    obtain rfl := Option.some.inj z
    exact Exists.intro _ ⟨_, rfl, (ce.keep [3, 2, 28] (by rfl)), au, (Heap.le_trans ag ah)⟩
 ·
  rintro _ dr ⟨a8, an, rfl, a4, ax, al⟩
  replace ad := ad.mono al
  replace ae := ae.mono al
  replace af := af.mono al
  replace aa := aa.mono al
  replace ab := ab.mono al
  replace ac := ac.mono al
  refine wp_cond_sv (bi) a4 (by kernel_rfl) (fun a1 => ?_) (fun a1 => ?_)
  ·
   rw [a1, cond_true] at H
   refine wp_seq (wp_region_from (R_runk 0 1 [4] [(tB 4 false)] a4 ax.plOk (by kernel_rfl) fun dh cf => ?_))
   refine wpFrom_end (by decide) (wp_ret ?_)
   obtain rfl := Option.some.inj H
   exact ret_ok (.one (.c (.bool false))) cf ax (by kernel_rfl) rfl
  ·
   rw [a1, cond_false] at H
   refine wp_skip (wp_seq (wp_seq (wp_region_from (R_runk 0 1 [5, 3, 2] ((tI 5 0) :: K22m3) a4 ax.plOk (by kernel_rfl) fun di cg => ?_))))
   refine wpFrom_end (by decide) ?_
   obtain ⟨bj, bc, H⟩ := bnd H
   refine wp_mid' (fun a' w' => ∃ (bk : Unit) (a9 : Array Value) (az : Heap), a' = ⟨a9, []⟩ ∧ Kn 47 [(d, 0), (e, 0)] [] a9 ∧ Mem ⟨w, h, noX⟩ az [(d, 0), (e, 0)] [⟨(K22c1 f a i g k o s), some 34⟩, ⟨(K22c2 l b p m q u x), some 34⟩] [] w' ∧ Heap.le an az ∧ bj = .go bk) ?_ ?_
   ·
    refine wp_block ?_
    refine wp_loop_n (fun ct a' w' => ∃ (x_v10 : Int) (ba : Array Value) (ao : Heap), a' = ⟨ba, []⟩ ∧ Kn 47 [(d, 0), (e, 0)] ((tI 5 x_v10) :: K22m3) ba ∧ Mem ⟨w, h, noX⟩ ao [(d, 0), (e, 0)] [⟨(K22c1 f a i g k o s), some 34⟩, ⟨(K22c2 l b p m q u x), some 34⟩] [] w' ∧ Heap.le an ao ∧ law_acts_l1 ct a b x_v10 = some bj) n ?_ ?_
    ·
     exact Exists.intro 0 ⟨_, _, rfl, (cg.keep [5, 3, 2] (by rfl)), ax, (Heap.le_refl _), bc⟩
    ·
     rintro a7 _ bn ⟨x_v10, ba, ao, rfl, ch, aj, ai, y⟩
     clear bc
     obtain _ | a7 := a7
     ·
      rw [law_acts_l1] at y; cases y
     rw [law_acts_l1] at y
     replace ad := ad.mono ai
     replace ae := ae.mono ai
     replace af := af.mono ai
     replace aa := aa.mono ai
     replace ab := ab.mono ai
     replace ac := ac.mono ai
     refine wp_seq (wp_seq (wp_region_from (R_runk 0 5 [33, 5, 3, 2] ((tB 33 (decide (x_v10 < ((a.spares.length : Nat) : Int)))) :: (tI 5 x_v10) :: K22m3) ch aj.plOk (by kernel_rfl) fun dj a5 => ?_)))
     refine wpFrom_end (by decide) (wp_cond_sv (decide (x_v10 < ((a.spares.length : Nat) : Int))) a5 (by kernel_rfl) (fun a2 => ?_) (fun a2 => ?_))
     ·
      rw [a2, cond_true] at y
      refine wp_skip (wp_seq (wp_block (wp_seq (wp_region_G (by kernel_rfl) ?_))))
      replace aj := aj.drew
      refine wpG_of_D [] [(d, 0), (e, 0)] [⟨(K22c1 f a i g k o s), some 34⟩, ⟨(K22c2 l b p m q u x), some 34⟩] ?_
      refine D_run [0, 1, 2] [2, 1, 0] [38, 37, 5, 3, 2] ((tI 38 x_v10) :: (tS 37 o a.spares.length s) :: (tI 5 x_v10) :: K22m3) (fun _ _ _ _ _ h => h) a5 aj.plOk (by kernel_rfl) (by rfl) (by kernel_rfl) fun dk ci => ?_
      obtain ⟨x39, ex39, y⟩ := bnd y
      obtain ⟨ck, cm, cq⟩ := idx_some ex39
      obtain ⟨av, ay, c2, bq, co, bs⟩ := af.get (by decide) cq
      obtain rfl := co
      have a6 : Mem ⟨w, h, noX⟩ ao [(d, 0), (e, 0), (av, ay + (x_v10 : Int).toNat * 1)] [⟨(K22c1 f a i g k o s), some 34⟩, ⟨(K22c2 l b p m q u x), some 34⟩, ⟨[.bool x39], none⟩] [] (World.drew bn) := aj.addPlc (cs := [.bool x39]) (fun j c hj => bs j _ (map_get hj)) rfl (by kernel_rfl) (by kernel_rfl)
      refine D_index 3 (x_v10) [.bool x39] (fun _ _ _ _ _ h => h) rfl rfl (rfl) rfl (by decide) (by kernel_rfl) (by kernel_rfl) ci aj.plOk (by rfl) (by rfl) (by rfl) bq (by rfl) ck cm (by kernel_rfl) fun cu (bu : Kn 47 [(d, 0), (e, 0), (av, ay + (x_v10 : Int).toNat * 1)] ((tP 39 2 0) :: (tI 38 x_v10) :: (tS 37 o a.spares.length s) :: (tI 5 x_v10) :: K22m3) cu) => ?_
      refine D_run [4, 5, 6, 7] [7, 6, 5, 4, 3, 2, 1, 0] [43, 42, 40, 5, 3, 2] ((tI 43 x_v10) :: (tS 42 u b.spares.length x) :: (tB 40 x39) :: (tI 5 x_v10) :: K22m3) (fun _ _ _ _ _ h => h) bu a6.plOk (by kernel_rfl) (by rfl) (by kernel_rfl) fun c6 bv => ?_
      obtain ⟨x44, ex44, y⟩ := bnd y
      obtain ⟨cl, cn, cr⟩ := idx_some ex44
      obtain ⟨bb, bh, c3, br, cp, bt⟩ := ac.get (by decide) cr
      obtain rfl := cp
      have ar : Mem ⟨w, h, noX⟩ ao [(d, 0), (e, 0), (av, ay + (x_v10 : Int).toNat * 1), (bb, bh + (x_v10 : Int).toNat * 1)] [⟨(K22c1 f a i g k o s), some 34⟩, ⟨(K22c2 l b p m q u x), some 34⟩, ⟨[.bool x39], none⟩, ⟨[.bool x44], none⟩] [] (World.drew bn) := a6.addPlc (cs := [.bool x44]) (fun j c hj => bt j _ (map_get hj)) rfl (by kernel_rfl) (by kernel_rfl)
      refine D_index 8 (x_v10) [.bool x44] (fun _ _ _ _ _ h => h) rfl rfl (rfl) rfl (by decide) (by kernel_rfl) (by kernel_rfl) bv a6.plOk (by rfl) (by rfl) (by rfl) br (by rfl) cl cn (by kernel_rfl) fun cv (bw : Kn 47 [(d, 0), (e, 0), (av, ay + (x_v10 : Int).toNat * 1), (bb, bh + (x_v10 : Int).toNat * 1)] ((tP 44 3 0) :: (tI 43 x_v10) :: (tS 42 u b.spares.length x) :: (tB 40 x39) :: (tI 5 x_v10) :: K22m3) cv) => ?_
      refine D_run [9, 10] [10, 9, 8, 7, 6, 5, 4, 3, 2, 1, 0] [46, 5, 3, 2] ((tB 46 (!(x39 == x44))) :: (tI 5 x_v10) :: K22m3) (fun _ _ _ _ _ h => h) bw ar.plOk (by kernel_rfl) (by rfl) (by kernel_rfl) fun c7 a3 => ?_
      refine wpD_end (by kernel_rfl) (wp_cond_sv ((!(x39 == x44))) a3 (by kernel_rfl) (fun a0 => ?_) (fun a0 => ?_))
      ·
       rw [a0, cond_true] at y
       refine wp_seq (wp_region_from (R_runk 0 1 [4] [(tB 4 false)] a3 ar.plOk (by kernel_rfl) fun c8 bx => ?_))
       refine wpFrom_end (by decide) (wp_ret ?_)
       obtain rfl := Option.some.inj y
       obtain rfl := Option.some.inj H
       exact ret_ok (.one (.c (.bool false))) bx ar (by kernel_rfl) rfl
      ·
       rw [a0, cond_false] at y
       refine wp_skip (wp_region_from (R_runk 0 3 [5, 3, 2] ((tI 5 (IntKind.i64.wrap (x_v10 + 1))) :: K22m3) a3 ar.plOk (by kernel_rfl) fun c9 bz => ?_))
       refine wpFrom_end (by decide) ?_
       exact Exists.intro a7 ⟨Nat.lt_succ_self _, Exists.intro (IntKind.i64.wrap (x_v10 + 1)) ⟨_, _, rfl, ((bz.keep [5, 3, 2] (by rfl)).cut 2 (by kernel_rfl)), (ar.cutPl 2 (by kernel_rfl)), ai, y⟩⟩
     ·
      rw [a2, cond_false] at y
      refine wp_exit ?_
      obtain rfl := Option.some.inj y
      exact Exists.intro () ⟨_, _, rfl, (a5.keep [] (by rfl)), aj, ai, rfl⟩
   ·
    rintro _ dn ⟨bk, a9, az, rfl, b0, bg, ak, rfl⟩
    rw [Ex.bind_go] at H
    replace ad := ad.mono ak
    replace ae := ae.mono ak
    replace af := af.mono ak
    replace aa := aa.mono ak
    replace ab := ab.mono ak
    replace ac := ac.mono ak
    refine wp_seq (wp_region_from (R_runk 0 1 [4] [(tB 4 true)] b0 bg.plOk (by kernel_rfl) fun da b1 => ?_))
    refine wpFrom_end (by decide) (wp_ret ?_)
    obtain rfl := Option.some.inj H
    exact ret_ok (.one (.c (.bool true))) b1 bg (by kernel_rfl) rfl

abbrev K28c1 (q : Option Addr) (a : Acts) (u : Nat) (k : Option Addr) (m : Nat) (y : Option Addr) (z : Nat) : List SC := [.slice q a.holds.length u, .slice k a.turns.length m, .slice y a.spares.length z]
abbrev K28e2 (b d s x : Nat) (x_v10 : Int) (af ah ak an aw a0 : Nat) : Env := [(b, 0), (d, 0), (s, x + (x_v10 : Int).toNat * 1), (af, ah + (x_v10 : Int).toNat * 1), (ak, an + (x_v10 : Int).toNat * 1), (aw, a0 + (x_v10 : Int).toNat * 3)]
abbrev K28c3 (i : Option Addr) (r_ : Route) (o : Nat) (f : Option Addr) (g : Nat) (l : Option Addr) (p : Nat) : List SC := [.slice i r_.legs.length o, .int .i64 r_.turn.lo, .int .i64 r_.turn.hi, .slice f r_.buses.length g, .slice l r_.spares.length p, .int .i64 r_.unit, .int .i64 r_.gap, .int .i64 r_.fr, .int .i64 r_.to_]
abbrev K28m4 (x_v10 : Int) : TM := [(tI 5 x_v10), (tP 3 1 0), (tP 2 0 0)]
abbrev K28m5 : TM := [(tP 3 1 0), (tP 2 0 0)]
abbrev K28m6 (x_v10 : Int) : TM := (tB 52 true) :: (tB 45 false) :: (K28m4 x_v10)
set_option maxRecDepth 100000 in
set_option maxHeartbeats 4000000 in
theorem ref_AreActs_ok (n : Nat) {h : Heap} {w : World} (hh : Has h w) (r_ : Route) {cs_r_ : List Value} (hx_r_ : rep h r_ cs_r_) (a : Acts) {cs_a : List Value} (hx_a : rep h a cs_a) {r : Bool} (H : ref_AreActs n r_ a = some r) :
  Calls Try.prog 28 #[.agg cs_r_.toArray, .agg cs_a.toArray] w (Ret (fun h v => v = .bool r) h w) := by
 obtain ⟨_, _, rfl, ⟨i, o, rfl, ad⟩, ⟨_, _, rfl, ⟨_, _, rfl, rfl, rfl⟩, ⟨_, _, rfl, ⟨f, g, rfl, ab⟩, ⟨_, _, rfl, ⟨l, p, rfl, ae⟩, ⟨_, _, rfl, rfl, ⟨_, _, rfl, rfl, ⟨_, _, rfl, rfl, rfl⟩⟩⟩⟩⟩⟩⟩ := hx_r_
 obtain ⟨_, _, rfl, ⟨q, u, rfl, ac⟩, ⟨_, _, rfl, ⟨k, m, rfl, aa⟩, ⟨y, z, rfl, ag⟩⟩⟩ := hx_a
 refine enter 71 [.agg (K28c3 i r_ o f g l p), .agg (K28c1 q a u k m y z)] Try.func28 rfl rfl rfl rfl fun t hk => ?_
 have hm := Mem.begin h w hh
 unfold ref_AreActs at H
 refine wp_seq (wp_region_from (wpFrom_loud _ rfl (rfl) fun K hK => ?_))
 refine wp_box (.agg (K28c3 i r_ o f g l p)) hk hm rfl rfl (by decide) (by kernel_rfl) (by kernel_rfl) (by kernel_rfl) fun b d5 d9 (c1 : Kn 71 [(b, 0)] [(tP 2 0 0), (tA 0 (K28c3 i r_ o f g l p)), (tA 1 (K28c1 q a u k m y z))] d5) (dh : Mem ⟨w, h, noX⟩ h [(b, 0)] [⟨(K28c3 i r_ o f g l p), some 28⟩] [] d9) => hK _ _ ?_
 refine wpFrom_loud _ rfl (rfl) fun K hK => ?_
 refine wp_box (.agg (K28c1 q a u k m y z)) c1 dh rfl rfl (by decide) (by kernel_rfl) (by kernel_rfl) (by kernel_rfl) fun d d6 ea (c2 : Kn 71 [(b, 0), (d, 0)] [(tP 3 1 0), (tP 2 0 0), (tA 0 (K28c3 i r_ o f g l p)), (tA 1 (K28c1 q a u k m y z))] d6) (aj : Mem ⟨w, h, noX⟩ h [(b, 0), (d, 0)] [⟨(K28c3 i r_ o f g l p), some 28⟩, ⟨(K28c1 q a u k m y z), some 50⟩] [] ea) => hK _ _ ?_
 refine R_runk 2 1 [3, 2] K28m5 c2 aj.plOk (by kernel_rfl) fun ew c3 => ?_
 refine wpFrom_end (by decide) (wp_seq (wp_seq ?_))
 obtain ⟨b2, ao, H⟩ := bnd H
 refine wp_mid' (fun a' w' => ∃ (bk : Array Value) (a1 : Heap), a' = ⟨bk, []⟩ ∧ Kn 71 [(b, 0), (d, 0)] [(tP 3 1 0), (tP 2 0 0), (tB 30 b2)] bk ∧ Mem ⟨w, h, noX⟩ a1 [(b, 0), (d, 0)] [⟨(K28c3 i r_ o f g l p), some 28⟩, ⟨(K28c1 q a u k m y z), some 50⟩] [] w' ∧ Heap.le h a1) ?_ ?_
 ·
  refine wp_region_from (R_runk 0 8 [13, 3, 2] ((tB 13 (((a.holds.length : Nat) : Int) != ((r_.buses.length : Nat) : Int))) :: K28m5) c3 aj.plOk (by kernel_rfl) fun b7 bz => ?_)
  rcases Bool.eq_false_or_eq_true ((((a.holds.length : Nat) : Int) != ((r_.buses.length : Nat) : Int))) with a4 | a4
  ·
   rw [a4, cond_true] at ao
   have c4 : Kn 71 [(b, 0), (d, 0)] ((tB 13 true) :: K28m5) b7 := (bz.setB 13 true (by rfl) a4).keep [13, 3, 2] (by rfl)
   refine R_runk 8 17 [30, 3, 2] ((tB 30 true) :: K28m5) c4 aj.plOk (by kernel_rfl) fun ex c5 => ?_
   refine wpFrom_end (by decide) ?_
   obtain rfl := Option.some.inj ao
   exact Exists.intro _ ⟨_, rfl, (c5.keep [3, 2, 30] (by rfl)), aj, (Heap.le_refl _)⟩
  ·
   rw [a4, cond_false] at ao
   have c6 : Kn 71 [(b, 0), (d, 0)] ((tB 13 false) :: K28m5) b7 := (bz.setB 13 false (by rfl) a4).keep [13, 3, 2] (by rfl)
   refine R_runk 8 9 [22, 3, 2] ((tB 22 (((a.turns.length : Nat) : Int) != ((r_.buses.length : Nat) : Int))) :: K28m5) c6 aj.plOk (by kernel_rfl) fun b8 b0 => ?_
   rcases Bool.eq_false_or_eq_true ((((a.turns.length : Nat) : Int) != ((r_.buses.length : Nat) : Int))) with a5 | a5
   ·
    rw [a5, cond_true] at ao
    have c7 : Kn 71 [(b, 0), (d, 0)] ((tB 22 true) :: K28m5) b8 := (b0.setB 22 true (by rfl) a5).keep [22, 3, 2] (by rfl)
    refine R_runk 17 8 [30, 3, 2] ((tB 30 true) :: K28m5) c7 aj.plOk (by kernel_rfl) fun ey c8 => ?_
    refine wpFrom_end (by decide) ?_
    obtain rfl := Option.some.inj ao
    exact Exists.intro _ ⟨_, rfl, (c8.keep [3, 2, 30] (by rfl)), aj, (Heap.le_refl _)⟩
   ·
    rw [a5, cond_false] at ao
    have c9 : Kn 71 [(b, 0), (d, 0)] ((tB 22 false) :: K28m5) b8 := (b0.setB 22 false (by rfl) a5).keep [22, 3, 2] (by rfl)
    refine R_runk 17 8 [30, 3, 2] ((tB 30 (((a.spares.length : Nat) : Int) != ((r_.spares.length : Nat) : Int))) :: K28m5) c9 aj.plOk (by kernel_rfl) fun ez da => ?_
    refine wpFrom_end (by decide) ?_
    obtain rfl := Option.some.inj ao
    exact Exists.intro _ ⟨_, rfl, (da.keep [3, 2, 30] (by rfl)), aj, (Heap.le_refl _)⟩
 ·
  rintro _ fb ⟨bk, a1, rfl, bf, a9, ay⟩
  replace ad := ad.mono ay
  replace ab := ab.mono ay
  replace ae := ae.mono ay
  replace ac := ac.mono ay
  replace aa := aa.mono ay
  replace ag := ag.mono ay
  refine wp_cond_sv (b2) bf (by kernel_rfl) (fun bc => ?_) (fun bc => ?_)
  ·
   rw [bc, cond_true] at H
   refine wp_seq (wp_region_from (R_runk 0 1 [4] [(tB 4 false)] bf a9.plOk (by kernel_rfl) fun e0 db => ?_))
   refine wpFrom_end (by decide) (wp_ret ?_)
   obtain rfl := Option.some.inj H
   exact ret_ok (.one (.c (.bool false))) db a9 (by kernel_rfl) rfl
  ·
   rw [bc, cond_false] at H
   refine wp_skip (wp_seq (wp_seq (wp_region_from (R_runk 0 1 [5, 3, 2] ((tI 5 0) :: K28m5) bf a9.plOk (by kernel_rfl) fun e1 dc => ?_))))
   refine wpFrom_end (by decide) ?_
   obtain ⟨b3, bo, H⟩ := bnd H
   refine wp_mid' (fun a' w' => ∃ (b4 : Unit) (bl : Array Value) (ba : Heap), a' = ⟨bl, []⟩ ∧ Kn 71 [(b, 0), (d, 0)] [] bl ∧ Mem ⟨w, h, noX⟩ ba [(b, 0), (d, 0)] [⟨(K28c3 i r_ o f g l p), some 28⟩, ⟨(K28c1 q a u k m y z), some 50⟩] [] w' ∧ Heap.le a1 ba ∧ b3 = .go b4) ?_ ?_
   ·
    refine wp_block ?_
    refine wp_loop_n (fun dz a' w' => ∃ (x_v10 : Int) (bm : Array Value) (a6 : Heap), a' = ⟨bm, []⟩ ∧ Kn 71 [(b, 0), (d, 0)] (K28m4 x_v10) bm ∧ Mem ⟨w, h, noX⟩ a6 [(b, 0), (d, 0)] [⟨(K28c3 i r_ o f g l p), some 28⟩, ⟨(K28c1 q a u k m y z), some 50⟩] [] w' ∧ Heap.le a1 a6 ∧ ref_AreActs_l1 dz r_ a x_v10 = some b3) n ?_ ?_
    ·
     exact Exists.intro 0 ⟨_, _, rfl, (dc.keep [5, 3, 2] (by rfl)), a9, (Heap.le_refl _), bo⟩
    ·
     rintro av _ eb ⟨x_v10, bm, a6, rfl, dd, au, ai, e⟩
     clear bo
     obtain _ | av := av
     ·
      rw [ref_AreActs_l1] at e; cases e
     rw [ref_AreActs_l1] at e
     replace ad := ad.mono ai
     replace ab := ab.mono ai
     replace ae := ae.mono ai
     replace ac := ac.mono ai
     replace aa := aa.mono ai
     replace ag := ag.mono ai
     refine wp_seq (wp_seq (wp_region_from (R_runk 0 5 [35, 5, 3, 2] ((tB 35 (decide (x_v10 < ((r_.buses.length : Nat) : Int)))) :: (K28m4 x_v10)) dd au.plOk (by kernel_rfl) fun e2 bg => ?_)))
     refine wpFrom_end (by decide) (wp_cond_sv (decide (x_v10 < ((r_.buses.length : Nat) : Int))) bg (by kernel_rfl) (fun bd => ?_) (fun bd => ?_))
     ·
      rw [bd, cond_true] at e
      refine wp_skip (wp_seq (wp_block (wp_seq (wp_region_G (by kernel_rfl) ?_))))
      replace au := au.drew
      refine wpG_of_D [] [(b, 0), (d, 0)] [⟨(K28c3 i r_ o f g l p), some 28⟩, ⟨(K28c1 q a u k m y z), some 50⟩] ?_
      refine D_run [0, 1, 2] [2, 1, 0] [40, 39, 5, 3, 2] ((tI 40 x_v10) :: (tS 39 q a.holds.length u) :: (K28m4 x_v10)) (fun _ _ _ _ _ h => h) bg au.plOk (by kernel_rfl) (by rfl) (by kernel_rfl) fun e3 de => ?_
      obtain ⟨x41, ex41, e⟩ := bnd e
      obtain ⟨dl, dq, dy⟩ := idx_some ex41
      obtain ⟨s, x, ef, cf, du, cj⟩ := ac.get (by decide) dy
      obtain rfl := du
      have bj : Mem ⟨w, h, noX⟩ a6 [(b, 0), (d, 0), (s, x + (x_v10 : Int).toNat * 1)] [⟨(K28c3 i r_ o f g l p), some 28⟩, ⟨(K28c1 q a u k m y z), some 50⟩, ⟨[.int .i64 x41], none⟩] [] (World.drew eb) := au.addPlc (cs := [.int .i64 x41]) (fun j c hj => cj j _ (map_get hj)) rfl (by kernel_rfl) (by kernel_rfl)
      refine D_index 3 (x_v10) [.int .i64 x41] (fun _ _ _ _ _ h => h) rfl rfl (rfl) rfl (by decide) (by kernel_rfl) (by kernel_rfl) de au.plOk (by rfl) (by rfl) (by rfl) cf (by rfl) dl dq (by kernel_rfl) fun d7 (df : Kn 71 [(b, 0), (d, 0), (s, x + (x_v10 : Int).toNat * 1)] ((tP 41 2 0) :: (tI 40 x_v10) :: (tS 39 q a.holds.length u) :: (K28m4 x_v10)) d7) => ?_
      refine D_run [4] [4, 3, 2, 1, 0] [42, 5, 3, 2] ((tI 42 x41) :: (K28m4 x_v10)) (fun _ _ _ _ _ h => h) df bj.plOk (by kernel_rfl) (by rfl) (by kernel_rfl) fun e4 dg => ?_
      obtain ⟨x43, ex43, e⟩ := bnd e
      refine D_loud 5 rfl (by kernel_rfl) (by decide) (rfl) fun K hK => ?_
      refine wp_call [.c (.int .i64 x41), .c (.int .i64 0), .c (.int .i64 2)] _ dg bj rfl rfl (by decide) (by rfl) rfl (fun _ _ => by kernel_rfl) (ref_In_ok av bj.has x41 0 2 ex43) fun e7 a7 bn cb al am => ?_
      replace ad := ad.mono al
      replace ab := ab.mono al
      replace ae := ae.mono al
      replace ac := ac.mono al
      replace aa := aa.mono al
      replace ag := ag.mono al
      obtain rfl := cb
      refine ⟨.one (.c (.bool x43)), rfl, fun d8 (ck : Kn 71 [(b, 0), (d, 0), (s, x + (x_v10 : Int).toNat * 1)] ((tB 43 x43) :: (tI 42 x41) :: (K28m4 x_v10)) d8) => hK _ _ am.plOk ?_⟩
      refine D_run [6, 7] [7, 6, 5, 4, 3, 2, 1, 0] [45, 5, 3, 2] ((tB 45 (!x43)) :: (K28m4 x_v10)) (fun _ _ _ _ _ h => h) ck am.plOk (by kernel_rfl) (by rfl) (by kernel_rfl) fun b5 bp => ?_
      rcases Bool.eq_false_or_eq_true ((!x43)) with a2 | a2
      ·
       rw [a2, cond_true] at e
       have cl : Kn 71 [(b, 0), (d, 0), (s, x + (x_v10 : Int).toNat * 1)] ((tB 45 true) :: (K28m4 x_v10)) b5 := (bp.setB 45 true (by rfl) a2).keep [45, 5, 3, 2] (by rfl)
       refine D_run [8, 9, 10, 11, 12, 13, 14, 15, 16, 17, 18, 19, 20, 21, 22, 23, 24, 25, 26, 27, 28, 29, 30, 31, 32] [32, 31, 30, 29, 28, 27, 26, 25, 24, 23, 22, 21, 20, 19, 18, 17, 16, 15, 14, 13, 12, 11, 10, 9, 8, 7, 6, 5, 4, 3, 2, 1, 0] [70, 5, 3, 2] ((tB 70 true) :: (K28m4 x_v10)) (fun _ _ _ _ _ h => h) cl am.plOk (by kernel_rfl) (by rfl) (by kernel_rfl) fun ei bq => ?_
       refine wpD_end (by kernel_rfl) (wp_cond_sv true bq (by kernel_rfl) (fun hb => ?_) (fun hb => ?_))
       rotate_left
       ·
        cases hb
       refine wp_seq (wp_region_from (R_runk 0 1 [4] [(tB 4 false)] bq am.plOk (by kernel_rfl) fun ej cm => ?_))
       refine wpFrom_end (by decide) (wp_ret ?_)
       obtain rfl := Option.some.inj e
       obtain rfl := Option.some.inj H
       exact ret_ok (.one (.c (.bool false))) cm am (by kernel_rfl) rfl
      ·
       rw [a2, cond_false] at e
       have cn : Kn 71 [(b, 0), (d, 0), (s, x + (x_v10 : Int).toNat * 1)] ((tB 45 false) :: (K28m4 x_v10)) b5 := (bp.setB 45 false (by rfl) a2).keep [45, 5, 3, 2] (by rfl)
       refine D_run [8, 9, 10] [10, 9, 8, 7, 6, 5, 4, 3, 2, 1, 0] [48, 47, 45, 5, 3, 2] ((tI 48 x_v10) :: (tS 47 k a.turns.length m) :: (tB 45 false) :: (K28m4 x_v10)) (fun _ _ _ _ _ h => h) cn am.plOk (by kernel_rfl) (by rfl) (by kernel_rfl) fun ek br => ?_
       obtain ⟨x49, ex49, e⟩ := bnd e
       obtain ⟨di, dm, dv⟩ := idx_some ex49
       obtain ⟨af, ah, ec, cc, dr, cg⟩ := aa.get (by decide) dv
       obtain rfl := dr
       have ar : Mem ⟨w, h, noX⟩ a7 [(b, 0), (d, 0), (s, x + (x_v10 : Int).toNat * 1), (af, ah + (x_v10 : Int).toNat * 1)] [⟨(K28c3 i r_ o f g l p), some 28⟩, ⟨(K28c1 q a u k m y z), some 50⟩, ⟨[.int .i64 x41], none⟩, ⟨[.int .i64 x49], none⟩] [] bn := am.addPlc (cs := [.int .i64 x49]) (fun j c hj => cg j _ (map_get hj)) rfl (by kernel_rfl) (by kernel_rfl)
       refine D_index 11 (x_v10) [.int .i64 x49] (fun _ _ _ _ _ h => h) rfl rfl (wantedS_sound br (by kernel_rfl)) rfl (by decide) (by kernel_rfl) (by kernel_rfl) br am.plOk (by rfl) (by rfl) (by rfl) cc (by rfl) di dm (by kernel_rfl) fun d0 (co : Kn 71 [(b, 0), (d, 0), (s, x + (x_v10 : Int).toNat * 1), (af, ah + (x_v10 : Int).toNat * 1)] ((tP 49 3 0) :: (tI 48 x_v10) :: (tS 47 k a.turns.length m) :: (tB 45 false) :: (K28m4 x_v10)) d0) => ?_
       refine D_run [12, 13, 14] [14, 13, 12, 11, 10, 9, 8, 7, 6, 5, 4, 3, 2, 1, 0] [52, 45, 5, 3, 2] ((tB 52 (x49 != (-1))) :: (tB 45 false) :: (K28m4 x_v10)) (fun _ _ _ _ _ h => h) co ar.plOk (by kernel_rfl) (by rfl) (by kernel_rfl) fun b6 bs => ?_
       rcases Bool.eq_false_or_eq_true ((x49 != (-1))) with a3 | a3
       ·
        rw [a3, cond_true] at e
        have cp : Kn 71 [(b, 0), (d, 0), (s, x + (x_v10 : Int).toNat * 1), (af, ah + (x_v10 : Int).toNat * 1)] (K28m6 x_v10) b6 := (bs.setB 52 true (by rfl) a3).keep [52, 45, 5, 3, 2] (by rfl)
        refine D_run [15, 16, 17] [17, 16, 15, 14, 13, 12, 11, 10, 9, 8, 7, 6, 5, 4, 3, 2, 1, 0] [55, 54, 52, 45, 5, 3, 2] ((tI 55 x_v10) :: (tS 54 k a.turns.length m) :: (K28m6 x_v10)) (fun _ _ _ _ _ h => h) cp ar.plOk (by kernel_rfl) (by rfl) (by kernel_rfl) fun el bt => ?_
        obtain ⟨x56, ex56, e⟩ := bnd e
        obtain ⟨dj, dn, dw⟩ := idx_some ex56
        obtain ⟨ak, an, ed, cd, ds, ch⟩ := aa.get (by decide) dw
        obtain rfl := ds
        have bh : Mem ⟨w, h, noX⟩ a7 [(b, 0), (d, 0), (s, x + (x_v10 : Int).toNat * 1), (af, ah + (x_v10 : Int).toNat * 1), (ak, an + (x_v10 : Int).toNat * 1)] [⟨(K28c3 i r_ o f g l p), some 28⟩, ⟨(K28c1 q a u k m y z), some 50⟩, ⟨[.int .i64 x41], none⟩, ⟨[.int .i64 x49], none⟩, ⟨[.int .i64 x56], none⟩] [] bn := ar.addPlc (cs := [.int .i64 x56]) (fun j c hj => ch j _ (map_get hj)) rfl (by kernel_rfl) (by kernel_rfl)
        refine D_index 18 (x_v10) [.int .i64 x56] (fun _ _ _ _ _ h => h) rfl rfl (wantedS_sound bt (by kernel_rfl)) rfl (by decide) (by kernel_rfl) (by kernel_rfl) bt ar.plOk (by rfl) (by rfl) (by rfl) cd (by rfl) dj dn (by kernel_rfl) fun d1 (cq : Kn 71 [(b, 0), (d, 0), (s, x + (x_v10 : Int).toNat * 1), (af, ah + (x_v10 : Int).toNat * 1), (ak, an + (x_v10 : Int).toNat * 1)] ((tP 56 4 0) :: (tI 55 x_v10) :: (tS 54 k a.turns.length m) :: (K28m6 x_v10)) d1) => ?_
        refine D_run [19, 20, 21, 22] [22, 21, 20, 19, 18, 17, 16, 15, 14, 13, 12, 11, 10, 9, 8, 7, 6, 5, 4, 3, 2, 1, 0] [60, 59, 57, 52, 45, 5, 3, 2] ((tI 60 x_v10) :: (tS 59 f r_.buses.length g) :: (tI 57 x56) :: (K28m6 x_v10)) (fun _ _ _ _ _ h => h) cq bh.plOk (by kernel_rfl) (by rfl) (by kernel_rfl) fun em bu => ?_
        obtain ⟨x61, ex61, e⟩ := bnd e
        obtain ⟨dk, dp, dx⟩ := idx_some ex61
        obtain ⟨aw, a0, ee, ce, dt, ci⟩ := ab.get (by decide) dx
        obtain ⟨_, _, rfl, rfl, ⟨_, _, rfl, rfl, rfl⟩⟩ := dt
        have bi : Mem ⟨w, h, noX⟩ a7 (K28e2 b d s x x_v10 af ah ak an aw a0) [⟨(K28c3 i r_ o f g l p), some 28⟩, ⟨(K28c1 q a u k m y z), some 50⟩, ⟨[.int .i64 x41], none⟩, ⟨[.int .i64 x49], none⟩, ⟨[.int .i64 x56], none⟩, ⟨[.int .i64 x61.stop, .int .i64 x61.tm.lo, .int .i64 x61.tm.hi], none⟩] [] bn := bh.addPlc (cs := [.int .i64 x61.stop, .int .i64 x61.tm.lo, .int .i64 x61.tm.hi]) (fun j c hj => ci j _ (map_get hj)) rfl (by kernel_rfl) (by kernel_rfl)
        refine D_index 23 (x_v10) [.int .i64 x61.stop, .int .i64 x61.tm.lo, .int .i64 x61.tm.hi] (fun _ _ _ _ _ h => h) rfl rfl (wantedS_sound bu (by kernel_rfl)) rfl (by decide) (by kernel_rfl) (by kernel_rfl) bu bh.plOk (by rfl) (by rfl) (by rfl) ce (by rfl) dk dp (by kernel_rfl) fun d2 (cr : Kn 71 (K28e2 b d s x x_v10 af ah ak an aw a0) ((tP 61 5 0) :: (tI 60 x_v10) :: (tS 59 f r_.buses.length g) :: (tI 57 x56) :: (K28m6 x_v10)) d2) => ?_
        refine D_run [24, 25, 26] [26, 25, 24, 23, 22, 21, 20, 19, 18, 17, 16, 15, 14, 13, 12, 11, 10, 9, 8, 7, 6, 5, 4, 3, 2, 1, 0] [64, 63, 57, 52, 45, 5, 3, 2] ((tA 64 (K28c3 i r_ o f g l p)) :: (tI 63 x61.stop) :: (tI 57 x56) :: (K28m6 x_v10)) (fun _ _ _ _ _ h => h) cr bi.plOk (by kernel_rfl) (by rfl) (by kernel_rfl) fun en bv => ?_
        obtain ⟨x65, ex65, e⟩ := bnd e
        refine D_loud 27 rfl (by kernel_rfl) (by decide) (wantedS_sound bv (by kernel_rfl)) fun K hK => ?_
        refine wp_call [.agg (K28c3 i r_ o f g l p)] _ bv bi rfl rfl (by decide) (by rfl) rfl (fun _ _ => by kernel_rfl) (ref_Places_ok av bi.has r_ ((rep_pair (rep_slice ad) (rep_pair (rep_pair rep_int rep_int) (rep_pair (rep_slice ab) (rep_pair (rep_slice ae) (rep_pair rep_int (rep_pair rep_int (rep_pair rep_int rep_int))))))) : rep a7 r_ _) ex65) fun e5 eg e8 b9 ap a8 => ?_
        replace ad := ad.mono ap
        replace ab := ab.mono ap
        replace ae := ae.mono ap
        replace ac := ac.mono ap
        replace aa := aa.mono ap
        replace ag := ag.mono ap
        obtain rfl := b9
        refine ⟨.one (.c (.int .i64 x65)), rfl, fun d3 (ct : Kn 71 (K28e2 b d s x x_v10 af ah ak an aw a0) ((tI 65 x65) :: (tA 64 (K28c3 i r_ o f g l p)) :: (tI 63 x61.stop) :: (tI 57 x56) :: (K28m6 x_v10)) d3) => hK _ _ a8.plOk ?_⟩
        refine D_run [28] [28, 27, 26, 25, 24, 23, 22, 21, 20, 19, 18, 17, 16, 15, 14, 13, 12, 11, 10, 9, 8, 7, 6, 5, 4, 3, 2, 1, 0] [66, 63, 57, 52, 45, 5, 3, 2] ((tI 66 (IntKind.i64.wrap (x65 - 2))) :: (tI 63 x61.stop) :: (tI 57 x56) :: (K28m6 x_v10)) (fun _ _ _ _ _ h => h) ct a8.plOk (by kernel_rfl) (by rfl) (by kernel_rfl) fun eo bw => ?_
        obtain ⟨x67, ex67, e⟩ := bnd e
        refine D_loud 29 rfl (by kernel_rfl) (by decide) (wantedS_sound bw (by kernel_rfl)) fun K hK => ?_
        refine wp_call [.c (.int .i64 x56), .c (.int .i64 x61.stop), .c (.int .i64 (IntKind.i64.wrap (x65 - 2)))] _ bw a8 rfl rfl (by decide) (by rfl) rfl (fun _ _ => by kernel_rfl) (ref_In_ok av a8.has x56 x61.stop (IntKind.i64.wrap (x65 - 2)) ex67) fun e6 eh e9 ca aq az => ?_
        replace ad := ad.mono aq
        replace ab := ab.mono aq
        replace ae := ae.mono aq
        replace ac := ac.mono aq
        replace aa := aa.mono aq
        replace ag := ag.mono aq
        obtain rfl := ca
        refine ⟨.one (.c (.bool x67)), rfl, fun d4 (cu : Kn 71 (K28e2 b d s x x_v10 af ah ak an aw a0) ((tB 67 x67) :: (tI 66 (IntKind.i64.wrap (x65 - 2))) :: (tI 63 x61.stop) :: (tI 57 x56) :: (K28m6 x_v10)) d4) => hK _ _ az.plOk ?_⟩
        refine D_run [30, 31, 32] [32, 31, 30, 29, 28, 27, 26, 25, 24, 23, 22, 21, 20, 19, 18, 17, 16, 15, 14, 13, 12, 11, 10, 9, 8, 7, 6, 5, 4, 3, 2, 1, 0] [70, 5, 3, 2] ((tB 70 (!x67)) :: (K28m4 x_v10)) (fun _ _ _ _ _ h => h) cu az.plOk (by kernel_rfl) (by rfl) (by kernel_rfl) fun ep be => ?_
        refine wpD_end (by kernel_rfl) (wp_cond_sv ((!x67)) be (by kernel_rfl) (fun bb => ?_) (fun bb => ?_))
        ·
         rw [bb, cond_true] at e
         refine wp_seq (wp_region_from (R_runk 0 1 [4] [(tB 4 false)] be az.plOk (by kernel_rfl) fun er cv => ?_))
         refine wpFrom_end (by decide) (wp_ret ?_)
         obtain rfl := Option.some.inj e
         obtain rfl := Option.some.inj H
         exact ret_ok (.one (.c (.bool false))) cv az (by kernel_rfl) rfl
        ·
         rw [bb, cond_false] at e
         refine wp_skip (wp_region_from (R_runk 0 3 [5, 3, 2] ((tI 5 (IntKind.i64.wrap (x_v10 + 1))) :: K28m5) be az.plOk (by kernel_rfl) fun es cw => ?_))
         refine wpFrom_end (by decide) ?_
         exact Exists.intro av ⟨Nat.lt_succ_self _, Exists.intro (IntKind.i64.wrap (x_v10 + 1)) ⟨_, _, rfl, ((cw.keep [5, 3, 2] (by rfl)).cut 2 (by kernel_rfl)), (az.cutPl 2 (by kernel_rfl)), (Heap.le_trans ai (Heap.le_trans al (Heap.le_trans ap aq))), e⟩⟩
       ·
        rw [a3, cond_false] at e
        have cx : Kn 71 [(b, 0), (d, 0), (s, x + (x_v10 : Int).toNat * 1), (af, ah + (x_v10 : Int).toNat * 1)] ((tB 52 false) :: (tB 45 false) :: (K28m4 x_v10)) b6 := (bs.setB 52 false (by rfl) a3).keep [52, 45, 5, 3, 2] (by rfl)
        refine D_run [15, 16, 17, 18, 19, 20, 21, 22, 23, 24, 25, 26, 27, 28, 29, 30, 31, 32] [32, 31, 30, 29, 28, 27, 26, 25, 24, 23, 22, 21, 20, 19, 18, 17, 16, 15, 14, 13, 12, 11, 10, 9, 8, 7, 6, 5, 4, 3, 2, 1, 0] [70, 5, 3, 2] ((tB 70 false) :: (K28m4 x_v10)) (fun _ _ _ _ _ h => h) cx ar.plOk (by kernel_rfl) (by rfl) (by kernel_rfl) fun et bx => ?_
        refine wpD_end (by kernel_rfl) (wp_cond_sv false bx (by kernel_rfl) (fun hb => ?_) (fun hb => ?_))
        ·
         cases hb
        refine wp_skip (wp_region_from (R_runk 0 3 [5, 3, 2] ((tI 5 (IntKind.i64.wrap (x_v10 + 1))) :: K28m5) bx ar.plOk (by kernel_rfl) fun eu cy => ?_))
        refine wpFrom_end (by decide) ?_
        exact Exists.intro av ⟨Nat.lt_succ_self _, Exists.intro (IntKind.i64.wrap (x_v10 + 1)) ⟨_, _, rfl, ((cy.keep [5, 3, 2] (by rfl)).cut 2 (by kernel_rfl)), (ar.cutPl 2 (by kernel_rfl)), (Heap.le_trans ai al), e⟩⟩
     ·
      rw [bd, cond_false] at e
      refine wp_exit ?_
      obtain rfl := Option.some.inj e
      exact Exists.intro () ⟨_, _, rfl, (bg.keep [] (by rfl)), au, ai, rfl⟩
   ·
    rintro _ fa ⟨b4, bl, ba, rfl, cz, b1, ax, rfl⟩
    rw [Ex.bind_go] at H
    replace ad := ad.mono ax
    replace ab := ab.mono ax
    replace ae := ae.mono ax
    replace ac := ac.mono ax
    replace aa := aa.mono ax
    replace ag := ag.mono ax
    refine wp_seq (wp_region_from (R_runk 0 1 [4] [(tB 4 true)] cz b1.plOk (by kernel_rfl) fun ev c0 => ?_))
    refine wpFrom_end (by decide) (wp_ret ?_)
    obtain rfl := Option.some.inj H
    exact ret_ok (.one (.c (.bool true))) c0 b1 (by kernel_rfl) rfl

abbrev K45c1 : List SC := [.slice none 0 0, .int .i64 0, .int .i64 0, .slice none 0 0, .slice none 0 0, .int .i64 0, .int .i64 0, .int .i64 0, .int .i64 0]
abbrev K45c2 (a b c : Option Addr) : List SC := [.slice a 3 3, .int .i64 0, .int .i64 4, .slice b 2 2, .slice c 1 1, .int .i64 5, .int .i64 37, .int .i64 0, .int .i64 50]
abbrev K45r3 (a b c : Option Addr) : List Row := [⟨a, 3, 3, 39, 2, ([.int .i64 10, .int .i64 10, .int .i64 5, .int .i64 15, .int .i64 10, .int .i64 12] : List Value), 0⟩, ⟨b, 2, 2, 96, 3, ([.int .i64 0, .int .i64 0, .int .i64 0, .int .i64 0, .int .i64 10, .int .i64 20] : List Value), 0⟩, ⟨c, 1, 1, 110, 2, ([.int .i64 2, .int .i64 40] : List Value), 0⟩]
abbrev K45m4 (a : Option Addr) : TM := [(tA 5 [.int .i64 0, .int .i64 4]), (tS 4 a 3 3), (tP 0 0 0)]
set_option maxRecDepth 100000 in
set_option maxHeartbeats 4000000 in
theorem law_line_ok (n : Nat) {h : Heap} {w : World} (hh : Has h w)  {r : Route} (H : law_line n  = some r) :
  Calls Try.prog 45 #[] w (Ret (fun h v => ∃ cs, v = .agg cs.toArray ∧ rep h r cs) h w) := by
 refine enter 13 [] Try.func45 rfl rfl rfl rfl fun t hk => ?_
 have hm := Mem.begin h w hh
 unfold law_line at H
 refine wp_seq (wp_region_from (wpFrom_loud _ rfl (rfl) fun K hK => ?_))
 refine wp_alloc K45c1 hk hm rfl rfl (by decide) (by kernel_rfl) (by kernel_rfl) (by kernel_rfl) fun d aw a3 (an : Kn 13 [(d, 0)] [(tP 0 0 0)] aw) (ae : Mem ⟨w, h, noX⟩ h [(d, 0)] [⟨K45c1, some 43⟩] [] a3) => hK _ _ ?_
 refine wpFrom_end (by decide) (wp_seq (wp_region_from (R_runk 0 3 [3, 2, 1, 0] [(tA 3 [.int .i64 10, .int .i64 12]), (tA 2 [.int .i64 5, .int .i64 15]), (tA 1 [.int .i64 10, .int .i64 10]), (tP 0 0 0)] an ae.plOk (by kernel_rfl) fun a6 ao => ?_)))
 refine wpFrom_loud _ rfl (rfl) fun K hK => ?_
 refine wp_buildSlice 39 2 [.int .i64 10, .int .i64 10, .int .i64 5, .int .i64 15, .int .i64 10, .int .i64 12] ao ae rfl rfl (by decide) (by kernel_rfl) (by rfl) (by rfl) rfl (by decide) fun a az a0 (af : Kn 13 [(d, 0)] [(tS 4 a 3 3), (tA 3 [.int .i64 10, .int .i64 12]), (tA 2 [.int .i64 5, .int .i64 15]), (tA 1 [.int .i64 10, .int .i64 10]), (tP 0 0 0)] az) (aa : Mem ⟨w, h, noX⟩ h [(d, 0)] [⟨K45c1, some 43⟩] [⟨a, 3, 3, 39, 2, ([.int .i64 10, .int .i64 10, .int .i64 5, .int .i64 15, .int .i64 10, .int .i64 12] : List Value), 0⟩] a0) => ?_
 have e : Cells h ([(Rg.mk 10 10), (Rg.mk 5 15), (Rg.mk 10 12)] : List Rg) ([.int .i64 10, .int .i64 10, .int .i64 5, .int .i64 15, .int .i64 10, .int .i64 12] : List Value) := ⟨_, _, rfl, ((rep_pair rep_int rep_int) : rep h ((Rg.mk 10 10) : Rg) _), ⟨_, _, rfl, ((rep_pair rep_int rep_int) : rep h ((Rg.mk 5 15) : Rg) _), ⟨_, _, rfl, ((rep_pair rep_int rep_int) : rep h ((Rg.mk 10 12) : Rg) _), rfl⟩⟩⟩
 refine hK _ _ ?_
 refine R_runk 4 4 [8, 6, 5, 4, 0] ((tA 8 [.int .i64 0, .int .i64 10, .int .i64 20]) :: (tA 6 [.int .i64 0, .int .i64 0, .int .i64 0]) :: (K45m4 a)) af aa.plOk (by kernel_rfl) fun a4 ag => ?_
 refine wpFrom_loud _ rfl (rfl) fun K hK => ?_
 refine wp_buildSlice 96 3 [.int .i64 0, .int .i64 0, .int .i64 0, .int .i64 0, .int .i64 10, .int .i64 20] ag aa rfl rfl (by decide) (by kernel_rfl) (by rfl) (by rfl) rfl (by decide) fun b av a1 (ah : Kn 13 [(d, 0)] ((tS 9 b 2 2) :: (tA 8 [.int .i64 0, .int .i64 10, .int .i64 20]) :: (tA 6 [.int .i64 0, .int .i64 0, .int .i64 0]) :: (K45m4 a)) av) (ab : Mem ⟨w, h, noX⟩ h [(d, 0)] [⟨K45c1, some 43⟩] [⟨a, 3, 3, 39, 2, ([.int .i64 10, .int .i64 10, .int .i64 5, .int .i64 15, .int .i64 10, .int .i64 12] : List Value), 0⟩, ⟨b, 2, 2, 96, 3, ([.int .i64 0, .int .i64 0, .int .i64 0, .int .i64 0, .int .i64 10, .int .i64 20] : List Value), 0⟩] a1) => ?_
 have f : Cells h ([(Bus.mk 0 (Rg.mk 0 0)), (Bus.mk 0 (Rg.mk 10 20))] : List Bus) ([.int .i64 0, .int .i64 0, .int .i64 0, .int .i64 0, .int .i64 10, .int .i64 20] : List Value) := ⟨_, _, rfl, ((rep_pair rep_int (rep_pair rep_int rep_int)) : rep h ((Bus.mk 0 (Rg.mk 0 0)) : Bus) _), ⟨_, _, rfl, ((rep_pair rep_int (rep_pair rep_int rep_int)) : rep h ((Bus.mk 0 (Rg.mk 10 20)) : Bus) _), rfl⟩⟩
 refine hK _ _ ?_
 refine R_runk 9 1 [10, 9, 5, 4, 0] ((tA 10 [.int .i64 2, .int .i64 40]) :: (tS 9 b 2 2) :: (K45m4 a)) ah ab.plOk (by kernel_rfl) fun a5 ai => ?_
 refine wpFrom_loud _ rfl (rfl) fun K hK => ?_
 refine wp_buildSlice 110 2 [.int .i64 2, .int .i64 40] ai ab rfl rfl (by decide) (by kernel_rfl) (by rfl) (by rfl) rfl (by decide) fun c ax a2 (aj : Kn 13 [(d, 0)] ((tS 11 c 1 1) :: (tA 10 [.int .i64 2, .int .i64 40]) :: (tS 9 b 2 2) :: (K45m4 a)) ax) (ac : Mem ⟨w, h, noX⟩ h [(d, 0)] [⟨K45c1, some 43⟩] (K45r3 a b c) a2) => ?_
 have g : Cells h ([(Spare.mk 2 40)] : List Spare) ([.int .i64 2, .int .i64 40] : List Value) := ⟨_, _, rfl, ((rep_pair rep_int rep_int) : rep h ((Spare.mk 2 40) : Spare) _), rfl⟩
 refine hK _ _ ?_
 refine R_runk 11 1 [12, 0] [(tA 12 (K45c2 a b c)), (tP 0 0 0)] aj ac.plOk (by kernel_rfl) fun ay ak => ?_
 refine wpFrom_loud _ rfl (rfl) fun K hK => ?_
 refine wp_store 0 0 (.agg (K45c2 a b c)) (K45c2 a b c) ak ac rfl rfl (by rfl) (by rfl) (by rfl) (by kernel_rfl) (by kernel_rfl) (by rfl) fun p al (ad : Mem ⟨w, h, noX⟩ h [(d, 0)] [⟨(K45c2 a b c), some 43⟩] (K45r3 a b c) p) => hK _ _ ?_
 have am : Kn 13 [(d, 0)] [(tP 0 0 0)] ay := al.keep [0] (by rfl)
 refine wpFrom_end (by decide) (wp_ret ?_)
 obtain ⟨y, s, aq, m⟩ := ad.settle (i := 0) rfl
 replace e := e.mono s
 replace f := f.mono s
 replace g := g.mono s
 replace m : Mem ⟨w, h, noX⟩ y [(d, 0)] [⟨(K45c2 a b c), some 43⟩] [⟨a, 3, 3, 39, 2, ([.int .i64 10, .int .i64 10, .int .i64 5, .int .i64 15, .int .i64 10, .int .i64 12] : List Value), (([.int .i64 10, .int .i64 10, .int .i64 5, .int .i64 15, .int .i64 10, .int .i64 12] : List Value) : List Value).length⟩, ⟨b, 2, 2, 96, 3, ([.int .i64 0, .int .i64 0, .int .i64 0, .int .i64 0, .int .i64 10, .int .i64 20] : List Value), 0⟩, ⟨c, 1, 1, 110, 2, ([.int .i64 2, .int .i64 40] : List Value), 0⟩] p := m
 have k : RepS y a 3 ([(Rg.mk 10 10), (Rg.mk 5 15), (Rg.mk 10 12)] : List Rg) := ⟨_, e, aq, ad.rowCap (i := 0) rfl⟩
 obtain ⟨z, l, ar, o⟩ := m.settle (i := 1) rfl
 replace k := k.mono l
 replace e := e.mono l
 replace f := f.mono l
 replace g := g.mono l
 replace o : Mem ⟨w, h, noX⟩ z [(d, 0)] [⟨(K45c2 a b c), some 43⟩] [⟨a, 3, 3, 39, 2, ([.int .i64 10, .int .i64 10, .int .i64 5, .int .i64 15, .int .i64 10, .int .i64 12] : List Value), (([.int .i64 10, .int .i64 10, .int .i64 5, .int .i64 15, .int .i64 10, .int .i64 12] : List Value) : List Value).length⟩, ⟨b, 2, 2, 96, 3, ([.int .i64 0, .int .i64 0, .int .i64 0, .int .i64 0, .int .i64 10, .int .i64 20] : List Value), (([.int .i64 0, .int .i64 0, .int .i64 0, .int .i64 0, .int .i64 10, .int .i64 20] : List Value) : List Value).length⟩, ⟨c, 1, 1, 110, 2, ([.int .i64 2, .int .i64 40] : List Value), 0⟩] p := o
 have x : RepS z b 2 ([(Bus.mk 0 (Rg.mk 0 0)), (Bus.mk 0 (Rg.mk 10 20))] : List Bus) := ⟨_, f, ar, m.rowCap (i := 1) rfl⟩
 obtain ⟨q, j, au, u⟩ := o.settle (i := 2) rfl
 replace k := k.mono j
 replace x := x.mono j
 replace e := e.mono j
 replace f := f.mono j
 replace g := g.mono j
 replace u : Mem ⟨w, h, noX⟩ q [(d, 0)] [⟨(K45c2 a b c), some 43⟩] [⟨a, 3, 3, 39, 2, ([.int .i64 10, .int .i64 10, .int .i64 5, .int .i64 15, .int .i64 10, .int .i64 12] : List Value), (([.int .i64 10, .int .i64 10, .int .i64 5, .int .i64 15, .int .i64 10, .int .i64 12] : List Value) : List Value).length⟩, ⟨b, 2, 2, 96, 3, ([.int .i64 0, .int .i64 0, .int .i64 0, .int .i64 0, .int .i64 10, .int .i64 20] : List Value), (([.int .i64 0, .int .i64 0, .int .i64 0, .int .i64 0, .int .i64 10, .int .i64 20] : List Value) : List Value).length⟩, ⟨c, 1, 1, 110, 2, ([.int .i64 2, .int .i64 40] : List Value), (([.int .i64 2, .int .i64 40] : List Value) : List Value).length⟩] p := u
 have ap : RepS q c 1 ([(Spare.mk 2 40)] : List Spare) := ⟨_, g, au, o.rowCap (i := 2) rfl⟩
 obtain rfl := Option.some.inj H
 exact ret_ok (.one (.agg (K45c2 a b c))) am u (by kernel_rfl) ⟨_, rfl, ((rep_pair (rep_slice k) (rep_pair (rep_pair rep_int rep_int) (rep_pair (rep_slice x) (rep_pair (rep_slice ap) (rep_pair rep_int (rep_pair rep_int (rep_pair rep_int rep_int))))))) : rep q ((Route.mk ([(Rg.mk 10 10), (Rg.mk 5 15), (Rg.mk 10 12)] : List Rg) (Rg.mk 0 4) ([(Bus.mk 0 (Rg.mk 0 0)), (Bus.mk 0 (Rg.mk 10 20))] : List Bus) ([(Spare.mk 2 40)] : List Spare) 5 37 0 50) : Route) _)⟩

abbrev K46c1 (a b c : Option Addr) : List SC := [.slice a 2 2, .slice b 2 2, .slice c 1 1]
abbrev K46c2 : List SC := [.slice none 0 0, .slice none 0 0, .slice none 0 0]
abbrev K46r3 (a b c : Option Addr) : List Row := [⟨a, 2, 2, 3, 1, ([.int .i64 0, .int .i64 0] : List Value), 0⟩, ⟨b, 2, 2, 3, 1, ([.int .i64 (-1), .int .i64 (-1)] : List Value), 0⟩, ⟨c, 1, 1, 4, 1, ([.bool false] : List Value), 0⟩]
set_option maxRecDepth 100000 in
set_option maxHeartbeats 4000000 in
theorem law_free_ok (n : Nat) {h : Heap} {w : World} (hh : Has h w)  {r : Acts} (H : law_free n  = some r) :
  Calls Try.prog 46 #[] w (Ret (fun h v => ∃ cs, v = .agg cs.toArray ∧ rep h r cs) h w) := by
 refine enter 5 [] Try.func46 rfl rfl rfl rfl fun t hk => ?_
 have hm := Mem.begin h w hh
 unfold law_free at H
 refine wp_seq (wp_region_from (wpFrom_loud _ rfl (rfl) fun K hK => ?_))
 refine wp_alloc K46c2 hk hm rfl rfl (by decide) (by kernel_rfl) (by kernel_rfl) (by kernel_rfl) fun d au az (ah : Kn 5 [(d, 0)] [(tP 0 0 0)] au) (al : Mem ⟨w, h, noX⟩ h [(d, 0)] [⟨K46c2, some 34⟩] [] az) => hK _ _ ?_
 refine wpFrom_end (by decide) (wp_seq (wp_region_from (wpFrom_loud _ rfl (rfl) fun K hK => ?_)))
 refine wp_buildSlice 3 1 [.int .i64 0, .int .i64 0] ah al rfl rfl (by decide) (by kernel_rfl) (by rfl) (by rfl) rfl (by decide) fun a aw a0 (ai : Kn 5 [(d, 0)] [(tS 1 a 2 2), (tP 0 0 0)] aw) (aj : Mem ⟨w, h, noX⟩ h [(d, 0)] [⟨K46c2, some 34⟩] [⟨a, 2, 2, 3, 1, ([.int .i64 0, .int .i64 0] : List Value), 0⟩] a0) => ?_
 have e : Cells h ([0, 0] : List Int) ([.int .i64 0, .int .i64 0] : List Value) := ⟨_, _, rfl, (rep_int : rep h (0 : Int) _), ⟨_, _, rfl, (rep_int : rep h (0 : Int) _), rfl⟩⟩
 refine hK _ _ ?_
 refine wpFrom_loud _ rfl (rfl) fun K hK => ?_
 refine wp_buildSlice 3 1 [.int .i64 (-1), .int .i64 (-1)] ai aj rfl rfl (by decide) (by kernel_rfl) (by rfl) (by rfl) rfl (by decide) fun b aq ax (ac : Kn 5 [(d, 0)] [(tS 2 b 2 2), (tS 1 a 2 2), (tP 0 0 0)] aq) (ak : Mem ⟨w, h, noX⟩ h [(d, 0)] [⟨K46c2, some 34⟩] [⟨a, 2, 2, 3, 1, ([.int .i64 0, .int .i64 0] : List Value), 0⟩, ⟨b, 2, 2, 3, 1, ([.int .i64 (-1), .int .i64 (-1)] : List Value), 0⟩] ax) => ?_
 have f : Cells h ([(-1), (-1)] : List Int) ([.int .i64 (-1), .int .i64 (-1)] : List Value) := ⟨_, _, rfl, (rep_int : rep h ((-1) : Int) _), ⟨_, _, rfl, (rep_int : rep h ((-1) : Int) _), rfl⟩⟩
 refine hK _ _ ?_
 refine wpFrom_loud _ rfl (rfl) fun K hK => ?_
 refine wp_buildSlice 4 1 [.bool false] ac ak rfl rfl (by decide) (by kernel_rfl) (by rfl) (by rfl) rfl (by decide) fun c ar ay (ad : Kn 5 [(d, 0)] [(tS 3 c 1 1), (tS 2 b 2 2), (tS 1 a 2 2), (tP 0 0 0)] ar) (aa : Mem ⟨w, h, noX⟩ h [(d, 0)] [⟨K46c2, some 34⟩] (K46r3 a b c) ay) => ?_
 have g : Cells h ([false] : List Bool) ([.bool false] : List Value) := ⟨_, _, rfl, (rep_bool : rep h (false : Bool) _), rfl⟩
 refine hK _ _ ?_
 refine R_runk 3 1 [4, 0] [(tA 4 (K46c1 a b c)), (tP 0 0 0)] ad aa.plOk (by kernel_rfl) fun av ae => ?_
 refine wpFrom_loud _ rfl (rfl) fun K hK => ?_
 refine wp_store 0 0 (.agg (K46c1 a b c)) (K46c1 a b c) ae aa rfl rfl (by rfl) (by rfl) (by rfl) (by kernel_rfl) (by kernel_rfl) (by rfl) fun p af (ab : Mem ⟨w, h, noX⟩ h [(d, 0)] [⟨(K46c1 a b c), some 34⟩] (K46r3 a b c) p) => hK _ _ ?_
 have ag : Kn 5 [(d, 0)] [(tP 0 0 0)] av := af.keep [0] (by rfl)
 refine wpFrom_end (by decide) (wp_ret ?_)
 obtain ⟨y, s, an, m⟩ := ab.settle (i := 0) rfl
 replace e := e.mono s
 replace f := f.mono s
 replace g := g.mono s
 replace m : Mem ⟨w, h, noX⟩ y [(d, 0)] [⟨(K46c1 a b c), some 34⟩] [⟨a, 2, 2, 3, 1, ([.int .i64 0, .int .i64 0] : List Value), (([.int .i64 0, .int .i64 0] : List Value) : List Value).length⟩, ⟨b, 2, 2, 3, 1, ([.int .i64 (-1), .int .i64 (-1)] : List Value), 0⟩, ⟨c, 1, 1, 4, 1, ([.bool false] : List Value), 0⟩] p := m
 have k : RepS y a 2 ([0, 0] : List Int) := ⟨_, e, an, ab.rowCap (i := 0) rfl⟩
 obtain ⟨z, l, ao, o⟩ := m.settle (i := 1) rfl
 replace k := k.mono l
 replace e := e.mono l
 replace f := f.mono l
 replace g := g.mono l
 replace o : Mem ⟨w, h, noX⟩ z [(d, 0)] [⟨(K46c1 a b c), some 34⟩] [⟨a, 2, 2, 3, 1, ([.int .i64 0, .int .i64 0] : List Value), (([.int .i64 0, .int .i64 0] : List Value) : List Value).length⟩, ⟨b, 2, 2, 3, 1, ([.int .i64 (-1), .int .i64 (-1)] : List Value), (([.int .i64 (-1), .int .i64 (-1)] : List Value) : List Value).length⟩, ⟨c, 1, 1, 4, 1, ([.bool false] : List Value), 0⟩] p := o
 have x : RepS z b 2 ([(-1), (-1)] : List Int) := ⟨_, f, ao, m.rowCap (i := 1) rfl⟩
 obtain ⟨q, j, ap, u⟩ := o.settle (i := 2) rfl
 replace k := k.mono j
 replace x := x.mono j
 replace e := e.mono j
 replace f := f.mono j
 replace g := g.mono j
 replace u : Mem ⟨w, h, noX⟩ q [(d, 0)] [⟨(K46c1 a b c), some 34⟩] [⟨a, 2, 2, 3, 1, ([.int .i64 0, .int .i64 0] : List Value), (([.int .i64 0, .int .i64 0] : List Value) : List Value).length⟩, ⟨b, 2, 2, 3, 1, ([.int .i64 (-1), .int .i64 (-1)] : List Value), (([.int .i64 (-1), .int .i64 (-1)] : List Value) : List Value).length⟩, ⟨c, 1, 1, 4, 1, ([.bool false] : List Value), (([.bool false] : List Value) : List Value).length⟩] p := u
 have am : RepS q c 1 ([false] : List Bool) := ⟨_, g, ap, o.rowCap (i := 2) rfl⟩
 obtain rfl := Option.some.inj H
 exact ret_ok (.one (.agg (K46c1 a b c))) ag u (by kernel_rfl) ⟨_, rfl, ((rep_pair (rep_slice k) (rep_pair (rep_slice x) (rep_slice am))) : rep q ((Acts.mk ([0, 0] : List Int) ([(-1), (-1)] : List Int) ([false] : List Bool)) : Acts) _)⟩

abbrev K48c1 (a b c : Option Addr) : List SC := [.slice a 2 2, .slice b 2 2, .slice c 1 1]
abbrev K48c2 : List SC := [.slice none 0 0, .slice none 0 0, .slice none 0 0]
abbrev K48r3 (a b c : Option Addr) : List Row := [⟨a, 2, 2, 3, 1, ([.int .i64 0, .int .i64 1] : List Value), 0⟩, ⟨b, 2, 2, 3, 1, ([.int .i64 (-1), .int .i64 (-1)] : List Value), 0⟩, ⟨c, 1, 1, 4, 1, ([.bool false] : List Value), 0⟩]
set_option maxRecDepth 100000 in
set_option maxHeartbeats 4000000 in
theorem law_held_ok (n : Nat) {h : Heap} {w : World} (hh : Has h w)  {r : Acts} (H : law_held n  = some r) :
  Calls Try.prog 48 #[] w (Ret (fun h v => ∃ cs, v = .agg cs.toArray ∧ rep h r cs) h w) := by
 refine enter 5 [] Try.func48 rfl rfl rfl rfl fun t hk => ?_
 have hm := Mem.begin h w hh
 unfold law_held at H
 refine wp_seq (wp_region_from (wpFrom_loud _ rfl (rfl) fun K hK => ?_))
 refine wp_alloc K48c2 hk hm rfl rfl (by decide) (by kernel_rfl) (by kernel_rfl) (by kernel_rfl) fun d au az (ah : Kn 5 [(d, 0)] [(tP 0 0 0)] au) (al : Mem ⟨w, h, noX⟩ h [(d, 0)] [⟨K48c2, some 34⟩] [] az) => hK _ _ ?_
 refine wpFrom_end (by decide) (wp_seq (wp_region_from (wpFrom_loud _ rfl (rfl) fun K hK => ?_)))
 refine wp_buildSlice 3 1 [.int .i64 0, .int .i64 1] ah al rfl rfl (by decide) (by kernel_rfl) (by rfl) (by rfl) rfl (by decide) fun a aw a0 (ai : Kn 5 [(d, 0)] [(tS 1 a 2 2), (tP 0 0 0)] aw) (aj : Mem ⟨w, h, noX⟩ h [(d, 0)] [⟨K48c2, some 34⟩] [⟨a, 2, 2, 3, 1, ([.int .i64 0, .int .i64 1] : List Value), 0⟩] a0) => ?_
 have e : Cells h ([0, 1] : List Int) ([.int .i64 0, .int .i64 1] : List Value) := ⟨_, _, rfl, (rep_int : rep h (0 : Int) _), ⟨_, _, rfl, (rep_int : rep h (1 : Int) _), rfl⟩⟩
 refine hK _ _ ?_
 refine wpFrom_loud _ rfl (rfl) fun K hK => ?_
 refine wp_buildSlice 3 1 [.int .i64 (-1), .int .i64 (-1)] ai aj rfl rfl (by decide) (by kernel_rfl) (by rfl) (by rfl) rfl (by decide) fun b aq ax (ac : Kn 5 [(d, 0)] [(tS 2 b 2 2), (tS 1 a 2 2), (tP 0 0 0)] aq) (ak : Mem ⟨w, h, noX⟩ h [(d, 0)] [⟨K48c2, some 34⟩] [⟨a, 2, 2, 3, 1, ([.int .i64 0, .int .i64 1] : List Value), 0⟩, ⟨b, 2, 2, 3, 1, ([.int .i64 (-1), .int .i64 (-1)] : List Value), 0⟩] ax) => ?_
 have f : Cells h ([(-1), (-1)] : List Int) ([.int .i64 (-1), .int .i64 (-1)] : List Value) := ⟨_, _, rfl, (rep_int : rep h ((-1) : Int) _), ⟨_, _, rfl, (rep_int : rep h ((-1) : Int) _), rfl⟩⟩
 refine hK _ _ ?_
 refine wpFrom_loud _ rfl (rfl) fun K hK => ?_
 refine wp_buildSlice 4 1 [.bool false] ac ak rfl rfl (by decide) (by kernel_rfl) (by rfl) (by rfl) rfl (by decide) fun c ar ay (ad : Kn 5 [(d, 0)] [(tS 3 c 1 1), (tS 2 b 2 2), (tS 1 a 2 2), (tP 0 0 0)] ar) (aa : Mem ⟨w, h, noX⟩ h [(d, 0)] [⟨K48c2, some 34⟩] (K48r3 a b c) ay) => ?_
 have g : Cells h ([false] : List Bool) ([.bool false] : List Value) := ⟨_, _, rfl, (rep_bool : rep h (false : Bool) _), rfl⟩
 refine hK _ _ ?_
 refine R_runk 3 1 [4, 0] [(tA 4 (K48c1 a b c)), (tP 0 0 0)] ad aa.plOk (by kernel_rfl) fun av ae => ?_
 refine wpFrom_loud _ rfl (rfl) fun K hK => ?_
 refine wp_store 0 0 (.agg (K48c1 a b c)) (K48c1 a b c) ae aa rfl rfl (by rfl) (by rfl) (by rfl) (by kernel_rfl) (by kernel_rfl) (by rfl) fun p af (ab : Mem ⟨w, h, noX⟩ h [(d, 0)] [⟨(K48c1 a b c), some 34⟩] (K48r3 a b c) p) => hK _ _ ?_
 have ag : Kn 5 [(d, 0)] [(tP 0 0 0)] av := af.keep [0] (by rfl)
 refine wpFrom_end (by decide) (wp_ret ?_)
 obtain ⟨y, s, an, m⟩ := ab.settle (i := 0) rfl
 replace e := e.mono s
 replace f := f.mono s
 replace g := g.mono s
 replace m : Mem ⟨w, h, noX⟩ y [(d, 0)] [⟨(K48c1 a b c), some 34⟩] [⟨a, 2, 2, 3, 1, ([.int .i64 0, .int .i64 1] : List Value), (([.int .i64 0, .int .i64 1] : List Value) : List Value).length⟩, ⟨b, 2, 2, 3, 1, ([.int .i64 (-1), .int .i64 (-1)] : List Value), 0⟩, ⟨c, 1, 1, 4, 1, ([.bool false] : List Value), 0⟩] p := m
 have k : RepS y a 2 ([0, 1] : List Int) := ⟨_, e, an, ab.rowCap (i := 0) rfl⟩
 obtain ⟨z, l, ao, o⟩ := m.settle (i := 1) rfl
 replace k := k.mono l
 replace e := e.mono l
 replace f := f.mono l
 replace g := g.mono l
 replace o : Mem ⟨w, h, noX⟩ z [(d, 0)] [⟨(K48c1 a b c), some 34⟩] [⟨a, 2, 2, 3, 1, ([.int .i64 0, .int .i64 1] : List Value), (([.int .i64 0, .int .i64 1] : List Value) : List Value).length⟩, ⟨b, 2, 2, 3, 1, ([.int .i64 (-1), .int .i64 (-1)] : List Value), (([.int .i64 (-1), .int .i64 (-1)] : List Value) : List Value).length⟩, ⟨c, 1, 1, 4, 1, ([.bool false] : List Value), 0⟩] p := o
 have x : RepS z b 2 ([(-1), (-1)] : List Int) := ⟨_, f, ao, m.rowCap (i := 1) rfl⟩
 obtain ⟨q, j, ap, u⟩ := o.settle (i := 2) rfl
 replace k := k.mono j
 replace x := x.mono j
 replace e := e.mono j
 replace f := f.mono j
 replace g := g.mono j
 replace u : Mem ⟨w, h, noX⟩ q [(d, 0)] [⟨(K48c1 a b c), some 34⟩] [⟨a, 2, 2, 3, 1, ([.int .i64 0, .int .i64 1] : List Value), (([.int .i64 0, .int .i64 1] : List Value) : List Value).length⟩, ⟨b, 2, 2, 3, 1, ([.int .i64 (-1), .int .i64 (-1)] : List Value), (([.int .i64 (-1), .int .i64 (-1)] : List Value) : List Value).length⟩, ⟨c, 1, 1, 4, 1, ([.bool false] : List Value), (([.bool false] : List Value) : List Value).length⟩] p := u
 have am : RepS q c 1 ([false] : List Bool) := ⟨_, g, ap, o.rowCap (i := 2) rfl⟩
 obtain rfl := Option.some.inj H
 exact ret_ok (.one (.agg (K48c1 a b c))) ag u (by kernel_rfl) ⟨_, rfl, ((rep_pair (rep_slice k) (rep_pair (rep_slice x) (rep_slice am))) : rep q ((Acts.mk ([0, 1] : List Int) ([(-1), (-1)] : List Int) ([false] : List Bool)) : Acts) _)⟩
end Go.Proofs.Ytokchpjijlebiaa
