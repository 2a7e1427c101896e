/- What a printed proof leans on: memory that is read, and steps through a region. -/
import Derived.Test.YthcbemnflgjadaaProg
import Derived.Test.YthcbemnflgjadaaNmS7
import Derived.Ground.Names8Prog
import Derived.Shelf.Abstract
import Derived.Shelf.Spec.SlicesGrow
set_option linter.all false
namespace Go.Proofs
open Go.Shelf
def Try.laysGrow_ren : Go.Shelf.Ren := ⟨fun | 4 => 63 | n => n, fun | 22 => 22 | 25 => 3 | 3 => 3 | 4 => 4 | 9 => 9 | 20 => 20 | 0 => 0 | n => n, fun | n => n⟩
theorem Try.laysGrow : Go.Proofs.Lays8.n4 Try.prog Try.laysGrow_ren := {
  mixed := by kernel_rfl
  f4 := ⟨"slices.Grow[[]int,int]", by decide, Try.func63.trans (congrArg some (by kernel_rfl))⟩
  t0 := Try.underlying0
  a0 := Try.isAgg0
  z0 := Try.sizeOf0
  v0 := Try.zeroValue0
  t3 := Try.underlying3
  a3 := Try.isAgg3
  z3 := Try.sizeOf3
  v3 := Try.zeroValue3
  t4 := Try.underlying4
  a4 := Try.isAgg4
  z4 := Try.sizeOf4
  v4 := Try.zeroValue4
  t9 := Try.underlying9
  a9 := Try.isAgg9
  z9 := Try.sizeOf9
  v9 := Try.zeroValue9
  t20 := Try.underlying20
  a20 := Try.isAgg20
  z20 := Try.sizeOf20
  v20 := Try.zeroValue20
  t22 := Try.underlying22
  a22 := Try.isAgg22
  z22 := Try.sizeOf22
  v22 := Try.zeroValue22 }
end Go.Proofs
namespace Go.Proofs.Ythcbemnflgjadaa
open Go Go.RowKit
theorem Try.grows : Grows Try.prog 63 3 := fun k w hk => by
  rcases Nat.eq_zero_or_pos k with rfl | h0
  · refine (Any8.slices_Grow_room Try.laysGrow none 0 0 0 w (by omega) (by omega) (by omega) (by omega)).mono ?_
    rintro en w' ⟨rfl, rfl⟩
    exact .inl ⟨rfl, rfl⟩
  · obtain ⟨ii, zv, e1, e2, e3, e4, e5, e6⟩ := elemOfB_spec (P := Try.prog) (E := 3) (sz := 1) (bytes := 8) (by kernel_rfl)
    refine (Any8.slices_Grow_grow Try.laysGrow ii zv e1 e2 (by omega) none 0 0 k [] w (by omega) (by omega) (by rw [e4]; omega) (by omega) (by simp) (fun _ => rfl) (fun a ha => by cases ha)).mono ?_
    rintro en w' ⟨rfl, rfl⟩
    refine .inr ⟨_, _, rfl, grownCap_le_maxLen w _ _ _ (by unfold maxLen; omega), ?_, rfl⟩
    have hg := grownCap_ge w (0 + k) 0 (Try.laysGrow_ren.t 25)
    simp only [Array.size_append, size_zeroCells, e5]
    show ([] : List Value).length + _ * 1 + _ * 1 = _
    simp only [List.length_nil]
    omega
end Go.Proofs.Ythcbemnflgjadaa
namespace Go.Proofs.Ythcbemnflgjadaa
open Go Go.RowKit
open Rep (rep)
open KRep (kv)
open VRep (rv)
theorem cond_t {α : Type} {c : Bool} {a b : α} (h : c = true) : (bif c then a else b) = a := by rw [h]; rfl
theorem cond_f {α : Type} {c : Bool} {a b : α} (h : c = false) : (bif c then a else b) = b := by rw [h]; rfl
theorem Ents.flat {KK α : Type} [KRep KK] [VRep α] {h h' : Heap} {es : List MapEntry} {c : Nat} {l : List (KK × α)} (hf : ∀ (h h' : Heap) (x : α) (v : Value), rv h x v → rv h' x v) (H : Ents h es c l) : Ents h' es c l :=
  ⟨H.all.imp fun _ _ ⟨h1, h2⟩ => ⟨h1, hf _ _ _ _ h2⟩, H.born, H.lt, H.keys⟩
section
variable {P : Program} (w : World)
theorem run_append_rowC (base : Nat) (t ty : TypeId) (e : TypeId) (i : TypeInfo) (z : Value) (size bytes : Nat) (ht : P.underlying t = some (.slice e)) (hi : P.info? e = some i) (hz : i.zero = some z)
    (hsize : i.size = size) (hby : i.bytes = bytes) (hzs : z.cells.size = size) (hsz : 0 < size)
    (a0 : Option Addr) (c0 : Nat) (n : Nat) (xs : List Value) (hown : w.ownsRow base e size (.slice a0 n c0) n xs)
    (a : Option Addr) (m c : Nat) (news : List Value) (hl : news.length = m * size) (hnews : ∀ j u, news[j]? = some u → ∃ ad, a = some ad ∧ w.cell? (ad.add j) = some u) (h1 : ∀ u ∈ news, u.oneCell' = true)
    (h63 : n + m ≤ maxLen) (hbytes : (n + m) * bytes ≤ 140737488355328) (hbase : base ≤ w.heap.size) :
    ∃ a' c' w', (Builtin.append_ #[t, t] ty #[.slice a0 n c0, .slice a m c]).run P w = .ok (.slice a' (n + m) c') w' ∧ w'.ownsRow base e size (.slice a' (n + m) c') (n + m) (xs ++ news) ∧
      ((a' = a0 ∧ c' = c0 ∧ w.grownBy w' (a0.map (·.block))) ∨ (∃ g, a' = some ⟨g, 0, none⟩ ∧ w.heap.size ≤ g ∧ g < w'.heap.size ∧ w.grownBy w' none)) := by
  cases a with
  | none =>
    have hn : news = [] := by
      cases news with
      | nil => rfl
      | cons x r => obtain ⟨ad, h, _⟩ := hnews 0 x rfl; cases h
    subst hn
    have hm : m = 0 := by
      rcases Nat.eq_zero_or_pos m with h | h
      · exact h
      · have := Nat.mul_pos h hsz; simp at hl; omega
    subst hm
    have hroom : n ≤ c0 := by
      rcases hown.2 with ⟨h, _⟩ | ⟨g, cap, cur, h, _, _, hnc, _⟩
      · simp at h; omega
      · simp at h; omega
    refine ⟨a0, c0, w, ?_, by simpa using hown, .inl ⟨rfl, rfl, ⟨rfl, rfl, rfl, Nat.le_refl _, fun _ _ _ => rfl⟩⟩⟩
    cases a0 <;> simp [Builtin.append_, run_underlying ht, sizeOf, typeInfo, hi, Builtin.lenOf, hroom, Builtin.firstCells, storeCells]
  | some ad =>
    have hnews : ∀ j u, news[j]? = some u → w.cell? (ad.add j) = some u := fun j u hu => by
      obtain ⟨ad', h, h'⟩ := hnews j u hu; cases h; exact h'
    subst hsize
    subst hby
    have hsmall : n + m ≤ 9223372036854775807 := by simp only [maxLen] at h63; omega
    have hlen : (xs ++ news).length = (n + m) * i.size := by rw [List.length_append, hown.1, hl, Nat.add_mul]
    have grown : ∀ (old : Nat), old < n + m →
        (w.drew.alloc (.cells (xs.toArray ++ news.toArray ++ Builtin.zeroCells z.cells (grownCap w (n + m) old e - (n + m))) e)).ownsRow base e i.size
          (.slice (some ⟨w.heap.size, 0, none⟩) (n + m) (grownCap w (n + m) old e)) (n + m) (xs ++ news) ∧
        w.grownBy (w.drew.alloc (.cells (xs.toArray ++ news.toArray ++ Builtin.zeroCells z.cells (grownCap w (n + m) old e - (n + m))) e)) none := by
      intro old ho
      have hge := grownCap_ge w (n + m) old e
      have hcm : grownCap w (n + m) old e ≤ maxLen := grownCap_le_maxLen w (n + m) old e h63
      refine ⟨⟨hlen, .inr ⟨w.heap.size, _, _, rfl, hbase, heap_alloc_new w.drew _, hge, hcm, ?_, ?_⟩⟩, ⟨rfl, rfl, rfl, by simp, fun k hk _ => Go.heap_alloc_old w.drew _ hk⟩⟩
      · simp only [Array.size_append, List.size_toArray, size_zeroCells, hzs, hown.1, hl, ← Nat.add_mul]
        congr 1
        omega
      · simp only [Array.toList_append, List.append_assoc]
        rw [← List.append_assoc, ← hlen]
        exact List.take_left
    rcases hown.2 with ⟨hv, rfl⟩ | ⟨g, cap, cur, hv, hbg, hg, hnc, hcm, hcs, htake⟩
    · simp only [Value.slice.injEq] at hv
      obtain ⟨rfl, _, rfl⟩ := hv
      have hx : xs = [] := List.eq_nil_of_length_eq_zero (by simpa using hown.1)
      subst hx
      by_cases hm : m = 0
      · subst hm
        have hn : news = [] := List.eq_nil_of_length_eq_zero (by simpa using hl)
        subst hn
        refine ⟨none, 0, w, ?_, World.ownsRow_nil w base e i.size, .inl ⟨rfl, rfl, ⟨rfl, rfl, rfl, Nat.le_refl _, fun _ _ _ => rfl⟩⟩⟩
        simp [Builtin.append_, run_underlying ht, sizeOf, typeInfo, hi, Builtin.lenOf, Builtin.firstCells, loadCells, loadCellsFrom]
      · have hr := run_append_nil (P := P) w t ty e i z ht hi hz ad m c news hl hnews (by omega) (by omega) (by have hb := hbytes; simp only [Nat.zero_add] at hb; omega)
        have hgr := grown 0 (by omega)
        simp only [Nat.zero_add, List.nil_append, Array.empty_append] at hgr ⊢
        exact ⟨_, _, _, hr, hgr.1, .inr ⟨_, rfl, Nat.le_refl _, by simp, hgr.2⟩⟩
    · simp only [Value.slice.injEq, true_and] at hv
      obtain ⟨rfl, rfl⟩ := hv
      by_cases hroom : n + m ≤ c0
      · have hfit : n * i.size + news.length ≤ cur.size := by rw [hl, hcs, ← Nat.add_mul]; exact Nat.mul_le_mul_right _ hroom
        have hr := run_append_room (P := P) w t ty e i ht hi g n c0 cur hg ad m c news hl hnews h1 hroom hfit
        refine ⟨_, _, _, hr, ⟨hlen, .inr ⟨g, c0, _, rfl, hbg, setRow_heap w g cur _ e _ hg, hroom, hcm, ?_, ?_⟩⟩, .inl ⟨rfl, rfl, ⟨rfl, rfl, rfl, by simp, fun k _ hk => setRow_other w g k _ (fun e => hk (by simp [e]))⟩⟩⟩
        · simp only [List.size_toArray, List.length_append, List.length_take, List.length_drop, Array.length_toList]
          omega
        · rw [htake, ← hlen]
          exact List.take_left
      · have holds : ∀ j u, xs[j]? = some u → w.cell? ((⟨g, 0, none⟩ : Addr).add j) = some u := hown.cells (g := g) rfl
        have hr := run_append_grow (P := P) w t ty e i z ht hi hz ⟨g, 0, none⟩ n c0 xs hown.1 holds ad m c news hl hnews (by omega) (by omega) (growslice_fits (by omega) hbytes)
        have hgr := grown c0 (by omega)
        exact ⟨_, _, _, hr, hgr.1, .inr ⟨_, rfl, Nat.le_refl _, by simp, hgr.2⟩⟩
end
section
variable {P : Program} {Q : Exit → Act → World → Prop} {N : Nat} {F : Fr} {h : Heap} {e : Env} {pl : List Plc} {rw : List Row} {w : World} {m : TM} {t : Array Value} {dd : List Deferred} {o : Oper} {d : Nat} {K : Act → World → Prop}
theorem lt_of_get {α : Type} {l : List α} {i : Nat} {x : α} (h : l[i]? = some x) : i < l.length := (List.getElem?_eq_some_iff.1 h).1
theorem set_cases {α : Type} {l : List α} {i j : Nat} {x y : α} (h : (l.set i x)[j]? = some y) : (j = i ∧ y = x) ∨ (j ≠ i ∧ l[j]? = some y) := by
  by_cases hj : j = i
  · subst hj
    have hl := lt_of_get h
    rw [List.length_set] at hl
    rw [List.getElem?_set_self hl] at h
    exact .inl ⟨rfl, (Option.some.inj h).symm⟩
  · rw [List.getElem?_set_ne (Ne.symm hj)] at h
    exact .inr ⟨hj, h⟩
theorem Mem.noRow {i : Nat} (E : TypeId) (sz : Nat) (hm : Mem F h e pl rw w) : Mem F h e pl (rw.set i ⟨none, 0, 0, E, sz, [], 0⟩) w := by
  obtain ⟨ow, m⟩ := hm
  refine ⟨ow, m.below, m.le, m.old, m.has, m.ows, m.hown, m.pls, fun j r hr => ?_, m.ext⟩
  rcases set_cases hr with ⟨_, rfl⟩ | ⟨_, hr⟩
  · exact ⟨World.ownsRow_nil _ _ _ _, Nat.le_refl _, fun ad ha => (by cases ha), fun v hv => by simp at hv⟩
  · exact m.rws j r hr
theorem Mem.moveRow {i k : Nat} {r q : Row} (hm : Mem F h e pl rw w) (hi : rw[i]? = some r) (hk : rw[k]? = some q) (hq : q.a = none) (hne : i ≠ k) : Mem F h e pl ((rw.set k r).set i q) w := by
  obtain ⟨ow, m⟩ := hm
  have nok : ∀ b, ow b = some (.inr k) → ∀ (j : Nat) (r' : Row), rw[j]? = some r' → ∀ ad : Addr, r'.a = some ad → ad.block ≠ b := fun b hb j r' hr ad ha hbe => by
    have := ((m.rws j r' hr).blk ad ha).1
    rw [hbe, hb] at this
    have hkj : k = j := by simpa using this
    subst hkj
    rw [hk] at hr
    cases hr
    rw [hq] at ha
    cases ha
  refine ⟨fun b => match ow b with
    | some (.inr j) => if j = i then some (.inr k) else if j = k then none else some (.inr j)
    | x => x, m.below, m.le, m.old, m.has, fun b x hx => ?_, fun b o x p hv hx => ?_, fun p q' hp => ?_, fun j r' hr => ?_, fun b x hx => ?_⟩
  · split at hx
    · rename_i j hj
      exact m.ows b _ hj
    · exact m.ows b x hx
  · split at hx
    · split at hx
      · cases hx
      · split at hx <;> cases hx
    · exact m.hown b o x p hv hx
  · have := m.pls p q' hp
    unfold PlcOk at this ⊢
    split at this
    · obtain ⟨h1, h2, h3, h4⟩ := this
      exact ⟨by simp only [h1], h2, h3, h4⟩
    · exact this
  · rcases set_cases hr with ⟨rfl, rfl⟩ | ⟨hj, hr⟩
    · have := m.rws k r' hk
      exact ⟨this.own, this.frz, fun ad ha => (by rw [hq] at ha; cases ha), this.one⟩
    · rcases set_cases hr with ⟨rfl, rfl⟩ | ⟨hj2, hr⟩
      · have := m.rws i r' hi
        refine ⟨this.own, this.frz, fun ad ha => ?_, this.one⟩
        obtain ⟨h1, h2⟩ := this.blk ad ha
        exact ⟨by simp only [h1, if_true], h2⟩
      · have := m.rws j r' hr
        refine ⟨this.own, this.frz, fun ad ha => ?_, this.one⟩
        obtain ⟨h1, h2⟩ := this.blk ad ha
        exact ⟨by simp only [h1, hj, hj2, if_false], h2⟩
  · obtain ⟨h1, h2, h3, h4, h5⟩ := m.ext b x hx
    exact ⟨h1, h2, h3, by simp only [h4], h5⟩
def Kept (r r' k : Row) : Prop := (r'.a = r.a ∧ r'.c = r.c ∧ r.n ≤ r'.n ∧ r.xs.length = r.n * r.sz ∧ r'.E = r.E ∧ r'.sz = r.sz ∧ k.a = none) ∨ k = r
theorem wp_appendK {T : TypeId} {s x : Operand} {r : Row} (i : Nat) (bytes k c2 : Nat) (n' : Nat) (a2 : Option Addr) (news : List Value) (hk : Kn N e m t) (hm : Mem F h e pl rw w) (hop : o.op = .call ⟨.builtin .append, #[s, x], #[T, T]⟩) (hd : o.dst = some d) (hlt : d < N)
    (hi : rw[i]? = some r) (hf : r.frz = 0) (hT : P.underlying T = some (.slice r.E)) (hE : elemOfB P r.E r.sz bytes = true) (hs : evA m s = some (.c (.slice r.a r.n r.c))) (hx : evA m x = some (.c (.slice a2 k c2)))
    (hl : news.length = k * r.sz) (hnews : ∀ j u, news[j]? = some u → ∃ ad, a2 = some ad ∧ ad.spot = none ∧ w.cell? ⟨ad.block, ad.off + j, none⟩ = some u) (h1 : ∀ u ∈ news, u.oneCell' = true)
    (hn' : r.n + k = n') (hb : n' ≤ 1000000000) (hby : decide (bytes ≤ 10000) = true)
    (hK : ∀ a' c' (q : Row) t' w', Kept r ⟨a', n', c', r.E, r.sz, r.xs ++ news, 0⟩ q → Kn N e (m.put d (.one (.c (.slice a' n' c')))) t' → Mem F h e pl (rw.set i ⟨a', n', c', r.E, r.sz, r.xs ++ news, 0⟩ ++ [q]) w' → K ⟨t', dd⟩ w') : o.wp P ⟨t, dd⟩ w K Q := by
  subst hn'
  obtain ⟨ii, z, e1, e2, e3, e4, e5, e6⟩ := elemOfB_spec hE
  have hby : bytes ≤ 10000 := by simpa using hby
  have hown := hm.row hi
  have hmul : (r.n + k) * bytes ≤ 1000000000 * 10000 := Nat.mul_le_mul hb hby
  obtain ⟨a', c', w', hr, hown', hc⟩ := run_append_rowC (P := P) w F.w.heap.size T o.type r.E ii z r.sz bytes hT e1 e2 e3 e4 e5 e6 r.a r.c r.n r.xs hown a2 k c2 news hl
    (fun j u hu => by obtain ⟨ad, q1, q2, q3⟩ := hnews j u hu; exact ⟨ad, q1, by rw [add_eq ad j q2]; exact q3⟩) h1 (by unfold maxLen; omega) (by omega) hm.size
  unfold Oper.wp execOp
  have hse := evA_sound (d := dd) hk hs
  have hxe := evA_sound (d := dd) hk hx
  simp only [SA.den, SC.den] at hse hxe
  simp only [hop, resolve, invoke, builtin, Sem.run_bind, Sem.run_pure, Result.andThen_ok, List.map_toArray, List.map_cons, List.map_nil, hse, hxe, hr]
  show K _ _
  rw [put_eq t dd hd]
  have hkn : Kn N e (m.put d (.one (.c (.slice a' (r.n + k) c')))) (t.setIfInBounds d (.slice a' (r.n + k) c')) := hk.put hlt (.one (.c (.slice a' (r.n + k) c')))
  have hone : ∀ v ∈ r.xs ++ news, isTup v = false := fun v hv => (List.mem_append.1 hv).elim (fun hv => by obtain ⟨_, mm⟩ := hm; exact (mm.rws i r hi).one v hv) (fun hv => isTup_of_one (h1 v hv))
  have hlt' := lt_of_get hi
  rcases hc with ⟨ha, hcc, hg⟩ | ⟨g, ha, hg1, hg2, hg⟩
  · refine hK a' c' ⟨none, 0, 0, r.E, r.sz, [], 0⟩ _ _ (.inl ⟨ha, hcc, Nat.le_add_right _ _, hown.1, rfl, rfl, rfl⟩) hkn (Mem.nilRow r.E r.sz ?_)
    exact hm.setRow (r' := ⟨a', r.n + k, c', r.E, r.sz, r.xs ++ news, 0⟩) hi hown' (fun o ho => (by rw [hf] at ho; omega)) hone (.inl ⟨ha, hf.symm, hg⟩)
  · have h2 := (hm.nilRow r.E r.sz).moveRow (i := i) (k := rw.length) (r := r) (q := ⟨none, 0, 0, r.E, r.sz, [], 0⟩) (by rw [List.getElem?_append_left hlt']; exact hi) (by simp) rfl (by omega)
    have h3 : ((rw ++ [(⟨none, 0, 0, r.E, r.sz, [], 0⟩ : Row)]).set rw.length r).set i (⟨none, 0, 0, r.E, r.sz, [], 0⟩ : Row) = rw.set i (⟨none, 0, 0, r.E, r.sz, [], 0⟩ : Row) ++ [r] := by
      rw [List.set_append_right _ _ (Nat.le_refl _), Nat.sub_self, List.set_append_left _ _ hlt']
      rfl
    rw [h3] at h2
    have h4 := h2.setRow (i := i) (r := ⟨none, 0, 0, r.E, r.sz, [], 0⟩) (r' := ⟨a', r.n + k, c', r.E, r.sz, r.xs ++ news, 0⟩) (by rw [List.getElem?_append_left (by simpa using hlt')]; simp [hlt']) hown' (fun o ho => by simp at ho) hone (.inr ⟨g, ha, rfl, hg1, hg2, hg⟩)
    rw [List.set_append_left _ _ (by simpa using hlt'), List.set_set] at h4
    exact hK a' c' r _ _ (.inr rfl) hkn h4
theorem Mem.unkeep {i k : Nat} {r r' q : Row} (hm : Mem F h e pl rw w) (hi : rw[i]? = some r') (hk : rw[k]? = some q) (hne : i ≠ k) (K : Kept r r' q) (hf : r.frz = 0) (hf' : r'.frz = 0) (hx : ∃ ys, r'.xs = r.xs ++ ys) : Mem F h e pl ((rw.set i r).set k ⟨none, 0, 0, r.E, r.sz, [], 0⟩) w := by
  rcases K with ⟨k1, k2, k3, k4, k5, k6, k7⟩ | rfl
  · refine Mem.noRow r.E r.sz ?_
    obtain ⟨ys, hx⟩ := hx
    obtain ⟨ow, m⟩ := hm
    refine ⟨ow, m.below, m.le, m.old, m.has, m.ows, m.hown, m.pls, fun j r2 hr => ?_, m.ext⟩
    rcases set_cases hr with ⟨rfl, rfl⟩ | ⟨_, hr⟩
    · have H := m.rws j r' hi
      have hxt : r'.xs.take r2.xs.length = r2.xs := by rw [hx]; exact List.take_left
      refine ⟨⟨k4, ?_⟩, by rw [hf]; exact Nat.zero_le _, fun ad ha => ?_, fun v hv => H.one v (by rw [hx]; exact List.mem_append_left _ hv)⟩
      · rcases H.own.2 with ⟨h1, h2⟩ | ⟨g, cap, cur, h1, h2, h3, h4, h5, h6, h7⟩
        · simp only [Value.slice.injEq] at h1
          have hz : r2.n = 0 := by omega
          exact .inl ⟨by rw [← k1, ← k2, h1.1, h1.2.2, hz], hz⟩
        · simp only [Value.slice.injEq] at h1
          refine .inr ⟨g, cap, cur, by rw [← k1, ← k2, h1.1, h1.2.2], h2, by rw [← k5]; exact h3, Nat.le_trans k3 h4, h5, by rw [← k6]; exact h6, ?_⟩
          rw [← hxt, ← h7, List.take_take, k4, Nat.min_eq_left]
          rw [k6]
          exact Nat.mul_le_mul_right _ k3
      · obtain ⟨q1, q2, q3⟩ := H.blk ad (by rw [k1]; exact ha)
        exact ⟨q1, fun o ho => q2 o (by rw [hf']; exact Nat.zero_le _), fun o ho => by rw [hf] at ho; omega⟩
    · exact m.rws j r2 hr
  · have hi' := lt_of_get hi
    have hk' := lt_of_get hk
    have h1 := (Mem.noRow (i := i) q.E q.sz hm).moveRow (i := k) (k := i) (r := q) (q := ⟨none, 0, 0, q.E, q.sz, [], 0⟩) (by rw [List.getElem?_set_ne hne]; exact hk) (by simp [hi']) rfl (Ne.symm hne)
    rw [List.set_set] at h1
    exact h1
theorem Mem.rowFree {i : Nat} {r : Row} (hm : Mem F h e pl rw w) (hi : rw[i]? = some r) (hf : r.frz = 0) : ∀ ad, r.a = some ad → ∀ o, h ad.block o = none := fun ad ha o => by
  obtain ⟨ow, m⟩ := hm
  exact ((m.rws i r hi).blk ad ha).2.1 o (by rw [hf]; exact Nat.zero_le _)
def NoneIn (h : Heap) (e : Env) (pl : List Plc) : Prop := ∀ (j : Nat) (p : Plc), pl[j]? = some p → p.own = none → ∀ (k : Nat) (c : SC), p.cells[k]? = some c → h (e.blk j).1 ((e.blk j).2 + k) = some (c.den e)
theorem Mem.noneIn (hm : Mem F h e pl rw w) : NoneIn h e pl := fun j p hp ho k c hc => by
  obtain ⟨ow, m⟩ := hm
  have := m.pls j p hp
  unfold PlcOk at this
  rw [ho] at this
  exact this k c hc
def SameNone : List Plc → List Plc → Prop
  | [], [] => True
  | p :: ps, q :: qs => (q.own = none → p = q) ∧ SameNone ps qs
  | _, _ => False
theorem SameNone.get : ∀ {ps qs : List Plc}, SameNone ps qs → ∀ (j : Nat) (q : Plc), qs[j]? = some q → q.own = none → ps[j]? = some q
  | [], [], _, _, _, h, _ => by simp at h
  | p :: ps, q' :: qs, H, 0, q, h, ho => by
    simp at h
    subst h
    rw [H.1 ho]
    rfl
  | p :: ps, q' :: qs, H, j + 1, q, h, ho => by
    simp at h
    simpa using SameNone.get H.2 j q h ho
  | [], _ :: _, H, _, _, _, _ => H.elim
  | _ :: _, [], H, _, _, _, _ => H.elim
theorem NoneIn.same {pl' : List Plc} (H : NoneIn h e pl) (S : SameNone pl pl') : NoneIn h e pl' := fun j p hp ho k c hc => H j p (S.get j p hp ho) ho k c hc
theorem Mem.forget {h2 : Heap} {i : Nat} {r : Row} (hm : Mem F h2 e pl rw w) (hi : rw[i]? = some r) (h0 : Heap.le F.h h) (hle : Heap.le h h2) (hno : ∀ ad, r.a = some ad → ∀ o, h ad.block o = none) (hp : NoneIn h e pl) :
    ∃ h3, Heap.le h h3 ∧ Mem F h3 e pl (rw.set i { r with frz := 0 }) w := by
  obtain ⟨ow, m⟩ := hm
  have H := m.rws i r hi
  have hno' : ∀ b o x, h b o = some x → ∀ ad, r.a = some ad → ad.block ≠ b := fun b o x hx ad ha hb => by rw [← hb, hno ad ha o] at hx; cases hx
  refine ⟨fun b o => if r.a.map (·.block) = some b then none else h2 b o, ?_, ow, m.below, ?_, ?_, ?_, m.ows, ?_, ?_, ?_, fun b x hx => ?_⟩
  · intro b o x hx
    have : ¬ r.a.map (·.block) = some b := fun hb => by
      obtain ⟨ad, ha, hb⟩ := Option.map_eq_some_iff.1 hb
      exact hno' b o x hx ad ha hb
    simp only [this, if_false]
    exact hle b o x hx
  · intro b o x hx
    have hx' := h0 b o x hx
    have : ¬ r.a.map (·.block) = some b := fun hb => by
      obtain ⟨ad, ha, hb⟩ := Option.map_eq_some_iff.1 hb
      exact hno' b o x hx' ad ha hb
    simp only [this, if_false]
    exact m.le b o x hx
  · intro b o x hx
    (try dsimp only at hx)
    split at hx
    · cases hx
    · exact m.old b o x hx
  · intro b o x hx
    (try dsimp only at hx)
    split at hx
    · cases hx
    · exact m.has b o x hx
  · intro b o x k hx
    (try dsimp only at hx)
    split at hx
    · cases hx
    · exact m.hown b o x k hx
  · intro j p hj
    have hpl := m.pls j p hj
    unfold PlcOk at hpl ⊢
    split at hpl
    · obtain ⟨q1, q2, q3, q4⟩ := hpl
      refine ⟨q1, q2, q3, fun o => ?_⟩
      dsimp only
      split
      · rfl
      · exact q4 o
    · rename_i ho
      intro k c hc
      have hx := hp j p hj ho k c hc
      have : ¬ r.a.map (·.block) = some (e.blk j).1 := fun hb => by
        obtain ⟨ad, ha, hb⟩ := Option.map_eq_some_iff.1 hb
        exact hno' _ _ _ hx ad ha hb
      simp only [this, if_false]
      exact hle _ _ _ hx
  · intro j r' hr
    rcases set_cases hr with ⟨rfl, rfl⟩ | ⟨hj, hr⟩
    · refine ⟨H.own, Nat.zero_le _, fun ad ha => ⟨(H.blk ad ha).1, fun o _ => ?_, fun o ho => absurd ho (Nat.not_lt_zero _)⟩, H.one⟩
      have ha' : r.a = some ad := ha
      simp [ha']
    · have H' := m.rws j r' hr
      refine ⟨H'.own, H'.frz, fun ad ha => ?_, H'.one⟩
      obtain ⟨q1, q2, q3⟩ := H'.blk ad ha
      have : ¬ r.a.map (·.block) = some ad.block := fun hb => by
        obtain ⟨ad', ha', hb⟩ := Option.map_eq_some_iff.1 hb
        have q4 := (H.blk ad' ha').1
        replace hb : ad'.block = ad.block := hb
        rw [hb, q1] at q4
        exact hj (by simpa using q4)
      exact ⟨q1, fun o ho => (by show (if r.a.map (·.block) = some ad.block then none else h2 ad.block o) = _; rw [if_neg this]; exact q2 o ho), fun o ho => (by show (if r.a.map (·.block) = some ad.block then none else h2 ad.block o) = _; rw [if_neg this]; exact q3 o ho)⟩
  · obtain ⟨q1, q2, q3, q4, q5, q6⟩ := m.ext b x hx
    refine ⟨q1, q2, q3, q4, fun o v hv => ?_, fun hc o => ?_⟩
    · dsimp only at hv
      split at hv
      · cases hv
      · exact q5 o v hv
    · dsimp only
      split
      · rfl
      · exact q6 hc o
theorem blk_app : ∀ (e e' : Env) (j : Nat), j < e.length → Env.blk (e ++ e') j = Env.blk e j
  | [], _, _, h => by simp at h
  | _ :: _, _, 0, _ => rfl
  | _ :: r, e', j + 1, h => blk_app r e' j (by simpa using h)
theorem NoneIn.more {e' : Env} {qs : List Plc} (H : NoneIn h e pl) (hl : pl.length ≤ e.length) (hnp : (pl.all fun (p : Plc) => p.own.isSome || noPtr p.cells) = true) (hq : (qs.all fun q => q.own.isSome || q.cells.isEmpty) = true) : NoneIn h (e ++ e') (pl ++ qs) := fun j p hp ho k c hc => by
  rcases Nat.lt_or_ge j pl.length with hj | hj
  · rw [List.getElem?_append_left hj] at hp
    have hb : Env.blk (e ++ e') j = Env.blk e j := blk_app e e' j (Nat.lt_of_lt_of_le hj hl)
    have hd := H j p hp ho k c hc
    have hn := List.all_eq_true.1 hnp p (List.mem_of_getElem? hp)
    rw [ho] at hn
    simp only [Option.isSome_none, Bool.false_or] at hn
    have hd2 := congrArg (·[k]?) (noPtr_den (e := e) (e' := e ++ e') hn)
    simp only [List.getElem?_map, hc, Option.map_some, Option.some.injEq] at hd2
    rw [hb, ← hd2]
    exact hd
  · rw [List.getElem?_append_right hj] at hp
    have := List.all_eq_true.1 hq p (List.mem_of_getElem? hp)
    rw [ho] at this
    simp only [Option.isSome_none, Bool.false_or, List.isEmpty_iff] at this
    rw [this] at hc
    simp at hc
theorem Mem.Fle (hm : Mem F h e pl rw w) : Heap.le F.h h := let ⟨_, m⟩ := hm; m.le
end
def bitsOf : List Nat → Nat
  | [] => 0
  | i :: r => bitsOf r ||| 1 <<< i
theorem bitsOf_test : ∀ (l : List Nat) (k : Nat), (bitsOf l).testBit k = l.contains k
  | [], k => by simp [bitsOf]
  | i :: r, k => by
    rw [bitsOf, Nat.testBit_or, bitsOf_test r k, List.contains_cons, Nat.one_shiftLeft, Nat.testBit_two_pow, Bool.or_comm]
    congr 1
    rw [Bool.eq_iff_iff, decide_eq_true_eq, beq_iff_eq]
    exact eq_comm
theorem listedOf_get (n : Nat) : ∀ (l : List Nat) (k : Nat), (listedOf n l)[k]? = if k < n then some (l.contains k) else none
  | [], k => by
    rw [listedOf, Array.getElem?_replicate]
    simp
  | i :: r, k => by
    have hs : (listedOf n r).size = n := by
      have e : ∀ l : List Nat, (listedOf n l).size = n := by
        intro l
        induction l with
        | nil => simp [listedOf]
        | cons a l ih => rw [listedOf, Array.size_setIfInBounds, ih]
      exact e r
    rw [listedOf, Array.getElem?_setIfInBounds, listedOf_get n r k, hs, List.contains_cons]
    by_cases h : i = k
    · subst h
      simp
    · rw [if_neg h, show (k == i) = false by simp [Ne.symm h], Bool.false_or]
theorem listedOf_getD {n k : Nat} (l : List Nat) (d : Bool) (h : k < n) : (listedOf n l).getD k d = l.contains k := by
  rw [Array.getD_eq_getD_getElem?, listedOf_get, if_pos h]
  rfl
def forceN {α : Type} (m : Nat) (k : Nat → α) : α := match m with
  | 0 => k 0
  | n + 1 => k (n + 1)
theorem forceN_eq {α : Type} (m : Nat) (k : Nat → α) : forceN m k = k m := by cases m <;> rfl
section
variable {ops : Array Oper} {X done : List Nat} {i : Nat}
def edgesF (m : Nat) (o : Oper) : Bool := o.after.all fun e => !Region.binds .any e || m.testBit e.on
def readyF (ops : Array Oper) (m i : Nat) : Bool := match ops[i]? with
  | some o => !m.testBit i && edgesF m o
  | none => false
def freeF (ops : Array Oper) (m i : Nat) : Bool := match ops[i]? with
  | none => false
  | some oi => (List.range ops.size).all fun j => j == i || (m.testBit j || match ops[j]? with
      | some oj => oi.apart ops oj || oj.after.any (fun e => Region.binds .any e && e.on == i)
      | none => true)
theorem edgesF_sound {o : Oper} (hb : ∀ k ∈ done, k < ops.size) (h : edgesF (bitsOf done) o = true) : (o.after.all fun e => !Region.binds .any e || (listedOf ops.size done).getD e.on false) = true := by
  unfold edgesF at h
  rw [Array.all_eq_true'] at h ⊢
  intro e he
  have h1 := h e he
  cases hq : Region.binds .any e with
  | false => rfl
  | true =>
    rw [hq, bitsOf_test] at h1
    simp only [Bool.not_true, Bool.false_or] at h1 ⊢
    have hm : e.on ∈ done := by simpa using h1
    rw [listedOf_getD _ _ (hb _ hm)]
    exact h1
theorem readyF_sound (hb : ∀ k ∈ done, k < ops.size) (h : readyF ops (bitsOf done) i = true) : (Region.ready .any ops (listedOf ops.size done)).contains i = true := by
  unfold readyF at h
  cases hi : ops[i]? with
  | none => rw [hi] at h; cases h
  | some o =>
    have hlt : i < ops.size := (Array.getElem?_eq_some_iff.1 hi).1
    rw [hi] at h
    simp only [Bool.and_eq_true] at h
    rw [bitsOf_test] at h
    have h2 := edgesF_sound hb h.2
    unfold Region.ready
    rw [List.contains_iff_mem, List.mem_filter, List.mem_range]
    refine ⟨hlt, ?_⟩
    rw [listedOf_getD _ _ hlt, h.1, hi]
    simpa using h2
theorem freeF_sound (h : freeF ops (bitsOf done) i = true) : Region.free .any ops (listedOf ops.size done) i = true := by
  unfold freeF at h
  unfold Region.free
  cases hi : ops[i]? with
  | none => rw [hi] at h; cases h
  | some oi =>
    rw [hi] at h
    simp only at h ⊢
    rw [List.all_eq_true] at h ⊢
    intro j hj
    have h1 := h j hj
    rw [List.mem_range] at hj
    rw [bitsOf_test] at h1
    rw [listedOf_getD _ _ hj]
    cases hq : (j == i) with
    | true => rfl
    | false =>
      rw [hq] at h1
      cases hc : done.contains j with
      | true => rfl
      | false =>
        rw [hc] at h1
        cases hj2 : ops[j]? with
        | none => rfl
        | some oj =>
          rw [hj2] at h1
          simp only [Bool.false_or] at h1 ⊢
          rw [Bool.or_comm]
          exact h1
def firstF (ops : Array Oper) (X : List Nat) (m l i : Nat) : Bool := (match ops[i]? with | some o => memFree o || !X.contains i | none => false) && (Nat.blt l ops.size && (freeF ops m i && readyF ops m i))
theorem firstF_sound (hb : ∀ k ∈ done, k < ops.size) (h : firstF ops X (bitsOf done) done.length i = true) : firstC ops X done i = true := by
  unfold firstF at h
  simp only [Bool.and_eq_true] at h
  unfold firstC
  simp only [Bool.and_eq_true, decide_eq_true_eq]
  exact ⟨⟨⟨h.1, Eq.mp Nat.blt_eq h.2.1⟩, freeF_sound h.2.2.1⟩, readyF_sound hb h.2.2.2⟩
def qrunF (P : Program) (ops : Array Oper) (X : List Nat) (N : Nat) (pl : List Plc) : List Nat → Nat → Nat → TM → Option TM
  | [], _, _, tm => some tm
  | i :: r, m, l, tm => forceN m fun m => if firstF ops X m l i then (match qstep P ops N pl tm i with
    | some m' => qrunF P ops X N pl r (m ||| 1 <<< i) (l + 1) m'
    | none => none) else none
theorem qrunF_sound {P : Program} {N : Nat} {pl : List Plc} : ∀ (is done : List Nat) (tm m' : TM), (∀ k ∈ done, k < ops.size) → qrunF P ops X N pl is (bitsOf done) done.length tm = some m' → qrunC P ops X N pl is done tm = some m'
  | [], done, tm, m', _, h => h
  | i :: r, done, tm, m', hb, h => by
    rw [qrunF, forceN_eq] at h
    rw [qrunC]
    cases hf : firstF ops X (bitsOf done) done.length i with
    | false => rw [hf] at h; simp at h
    | true =>
      have hc := firstF_sound hb hf
      rw [hf, if_pos rfl] at h
      rw [hc, if_pos rfl]
      cases hq : qstep P ops N pl tm i with
      | none => rw [hq] at h; cases h
      | some m1 =>
        rw [hq] at h
        simp only at h ⊢
        have hlt : i < ops.size := by
          unfold firstC at hc
          simp only [Bool.and_eq_true] at hc
          have hm := hc.2
          unfold Region.ready at hm
          rw [List.contains_iff_mem, List.mem_filter, List.mem_range] at hm
          exact hm.1
        exact qrunF_sound r (i :: done) m1 m' (fun k hk => by
          rcases List.mem_cons.1 hk with rfl | hk
          · exact hlt
          · exact hb k hk) h
def qrunDF (P : Program) (ops : Array Oper) (X : List Nat) (N : Nat) (pl : List Plc) (is done : List Nat) (tm : TM) : Option TM :=
  forceN (bitsOf done) fun m => if (done.all fun k => Nat.blt k ops.size) && (done.all fun a => match ops[a]? with | some o => edgesF m o | none => true) then qrunF P ops X N pl is m done.length tm else none
theorem qrunDF_sound {P : Program} {N : Nat} {pl : List Plc} {is done : List Nat} {tm m' : TM} (h : qrunDF P ops X N pl is done tm = some m') : qrunD P ops X N pl is done tm = some m' := by
  unfold qrunDF at h
  rw [forceN_eq] at h
  split at h
  · rename_i hc
    rw [Bool.and_eq_true] at hc
    have hb : ∀ k ∈ done, k < ops.size := fun k hk => Eq.mp Nat.blt_eq (List.all_eq_true.1 hc.1 k hk)
    have hs : shutB ops done = true := by
      unfold shutB
      rw [List.all_eq_true]
      intro a ha
      have h1 := List.all_eq_true.1 hc.2 a ha
      cases ho : ops[a]? with
      | none => rfl
      | some o =>
        rw [ho] at h1
        exact edgesF_sound hb h1
    unfold qrunD
    rw [hs, if_pos rfl]
    exact qrunF_sound is done tm m' hb h
  · cases h
theorem Df {P : Program} {Q : Exit → Act → World → Prop} {N : Nat} {e : Env} {pl : List Plc} {rw : List Row} {w : World} {d : List Deferred} {m : TM} {t : Array Value} {F : Fr} {h : Heap}
    (is done' : List Nat) (m' : TM) (hk : Kn N e m t) (hm : Mem F h e pl rw w) (H : ∀ t', Kn N e m' t' → wpD P ops X Q e pl done' ⟨t', d⟩ w) (hQ : Deaf Q := by exact fun _ _ _ _ _ h => h)
    (hs : Region.noSelect ops = true := by kernel_rfl) (hd : is.reverseAux done = done' := by rfl) (hr : (qrunDF P ops X N pl is done m).map (fun x => keepTM x (m'.map Prod.fst)) = some m' := by kernel_rfl) : wpD P ops X Q e pl done ⟨t, d⟩ w :=
  D_run is done' _ m' hQ hk hm.plOk hs hd (by
    obtain ⟨m1, h1, h2⟩ := Option.map_eq_some_iff.1 hr
    rw [qrunDF_sound h1]
    exact congrArg some h2) H
end
end Go.Proofs.Ythcbemnflgjadaa
