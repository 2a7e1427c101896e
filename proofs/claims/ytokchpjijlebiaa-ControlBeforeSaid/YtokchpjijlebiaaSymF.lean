/- Rows: slices that the call itself makes, grows and writes. -/
import Derived.Test.YtokchpjijlebiaaSymE
set_option linter.all false
namespace Go.Proofs.Ytokchpjijlebiaa
open Go Go.RowKit

section
variable {P : Program} (w : World)
theorem add_eq (ad : Addr) (j : Nat) (h : ad.spot = none) : ad.add j = ⟨ad.block, ad.off + j, none⟩ := by
  unfold Addr.add
  split
  · subst_vars; cases ad; simp at h; subst h; simp
  · rfl
theorem run_append_row (base : Nat) (t ty : TypeId) (e : TypeId) (i : TypeInfo) (z : Value) (size bytes : Nat) (ht : P.underlying t = some (.slice e)) (hi : P.info? e = some i) (hz : i.zero = some z)
    (hsize : i.size = size) (hby : i.bytes = bytes) (hzs : z.cells.size = size) (hsz : 0 < size)
    (a0 : Option Addr) (c0 : Nat) (n : Nat) (xs : List Value) (hown : w.ownsRow base e size (.slice a0 n c0) n xs)
    (a : Option Addr) (m c : Nat) (news : List Value) (hl : news.length = m * size) (hnews : ∀ j u, news[j]? = some u → ∃ ad, a = some ad ∧ w.cell? (ad.add j) = some u) (h1 : ∀ u ∈ news, u.oneCell' = true)
    (h63 : n + m ≤ maxLen) (hbytes : (n + m) * bytes ≤ 140737488355328) (hbase : base ≤ w.heap.size) :
    ∃ a' c' w', (Builtin.append_ #[t, t] ty #[.slice a0 n c0, .slice a m c]).run P w = .ok (.slice a' (n + m) c') w' ∧ w'.ownsRow base e size (.slice a' (n + m) c') (n + m) (xs ++ news) ∧
      ((a' = a0 ∧ w.grownBy w' (a0.map (·.block))) ∨ (∃ g, a' = some ⟨g, 0, none⟩ ∧ w.heap.size ≤ g ∧ g < w'.heap.size ∧ w.grownBy w' none)) := by
  cases a with
  | none =>
    have hn : news = [] := by
      cases news with
      | nil => rfl
      | cons x r => obtain ⟨ad, h, _⟩ := hnews 0 x rfl; cases h
    subst hn
    have hm : m = 0 := by
      rcases Nat.eq_zero_or_pos m with h | h
      · exact h
      · have := Nat.mul_pos h hsz; simp at hl; omega
    subst hm
    have hroom : n ≤ c0 := by
      rcases hown.2 with ⟨h, _⟩ | ⟨g, cap, cur, h, _, _, hnc, _⟩
      · simp at h; omega
      · simp at h; omega
    refine ⟨a0, c0, w, ?_, by simpa using hown, .inl ⟨rfl, ⟨rfl, rfl, rfl, Nat.le_refl _, fun _ _ _ => rfl⟩⟩⟩
    cases a0 <;> simp [Builtin.append_, run_underlying ht, sizeOf, typeInfo, hi, Builtin.lenOf, hroom, Builtin.firstCells, storeCells]
  | some ad =>
    have hnews : ∀ j u, news[j]? = some u → w.cell? (ad.add j) = some u := fun j u hu => by
      obtain ⟨ad', h, h'⟩ := hnews j u hu; cases h; exact h'
    subst hsize
    subst hby
    have hsmall : n + m ≤ 9223372036854775807 := by simp only [maxLen] at h63; omega
    have hlen : (xs ++ news).length = (n + m) * i.size := by rw [List.length_append, hown.1, hl, Nat.add_mul]
    have grown : ∀ (old : Nat), old < n + m →
        (w.drew.alloc (.cells (xs.toArray ++ news.toArray ++ Builtin.zeroCells z.cells (grownCap w (n + m) old e - (n + m))) e)).ownsRow base e i.size
          (.slice (some ⟨w.heap.size, 0, none⟩) (n + m) (grownCap w (n + m) old e)) (n + m) (xs ++ news) ∧
        w.grownBy (w.drew.alloc (.cells (xs.toArray ++ news.toArray ++ Builtin.zeroCells z.cells (grownCap w (n + m) old e - (n + m))) e)) none := by
      intro old ho
      have hge := grownCap_ge w (n + m) old e
      have hcm : grownCap w (n + m) old e ≤ maxLen := grownCap_le_maxLen w (n + m) old e h63
      refine ⟨⟨hlen, .inr ⟨w.heap.size, _, _, rfl, hbase, heap_alloc_new w.drew _, hge, hcm, ?_, ?_⟩⟩, ⟨rfl, rfl, rfl, by simp, fun k hk _ => Go.heap_alloc_old w.drew _ hk⟩⟩
      · simp only [Array.size_append, List.size_toArray, size_zeroCells, hzs, hown.1, hl, ← Nat.add_mul]
        congr 1
        omega
      · simp only [Array.toList_append, List.append_assoc]
        rw [← List.append_assoc, ← hlen]
        exact List.take_left
    rcases hown.2 with ⟨hv, rfl⟩ | ⟨g, cap, cur, hv, hbg, hg, hnc, hcm, hcs, htake⟩
    · simp only [Value.slice.injEq] at hv
      obtain ⟨rfl, _, rfl⟩ := hv
      have hx : xs = [] := List.eq_nil_of_length_eq_zero (by simpa using hown.1)
      subst hx
      by_cases hm : m = 0
      · subst hm
        have hn : news = [] := List.eq_nil_of_length_eq_zero (by simpa using hl)
        subst hn
        refine ⟨none, 0, w, ?_, World.ownsRow_nil w base e i.size, .inl ⟨rfl, ⟨rfl, rfl, rfl, Nat.le_refl _, fun _ _ _ => rfl⟩⟩⟩
        simp [Builtin.append_, run_underlying ht, sizeOf, typeInfo, hi, Builtin.lenOf, Builtin.firstCells, loadCells, loadCellsFrom]
      · have hr := run_append_nil (P := P) w t ty e i z ht hi hz ad m c news hl hnews (by omega) (by omega) (by have hb := hbytes; simp only [Nat.zero_add] at hb; omega)
        have hgr := grown 0 (by omega)
        simp only [Nat.zero_add, List.nil_append, Array.empty_append] at hgr ⊢
        exact ⟨_, _, _, hr, hgr.1, .inr ⟨_, rfl, Nat.le_refl _, by simp, hgr.2⟩⟩
    · simp only [Value.slice.injEq, true_and] at hv
      obtain ⟨rfl, rfl⟩ := hv
      by_cases hroom : n + m ≤ c0
      · have hfit : n * i.size + news.length ≤ cur.size := by rw [hl, hcs, ← Nat.add_mul]; exact Nat.mul_le_mul_right _ hroom
        have hr := run_append_room (P := P) w t ty e i ht hi g n c0 cur hg ad m c news hl hnews h1 hroom hfit
        refine ⟨_, _, _, hr, ⟨hlen, .inr ⟨g, c0, _, rfl, hbg, setRow_heap w g cur _ e _ hg, hroom, hcm, ?_, ?_⟩⟩, .inl ⟨rfl, ⟨rfl, rfl, rfl, by simp, fun k _ hk => setRow_other w g k _ (fun e => hk (by simp [e]))⟩⟩⟩
        · simp only [List.size_toArray, List.length_append, List.length_take, List.length_drop, Array.length_toList]
          omega
        · rw [htake, ← hlen]
          exact List.take_left
      · have holds : ∀ j u, xs[j]? = some u → w.cell? ((⟨g, 0, none⟩ : Addr).add j) = some u := hown.cells (g := g) rfl
        have hr := run_append_grow (P := P) w t ty e i z ht hi hz ⟨g, 0, none⟩ n c0 xs hown.1 holds ad m c news hl hnews (by omega) (by omega) (growslice_fits (by omega) hbytes)
        have hgr := grown c0 (by omega)
        exact ⟨_, _, _, hr, hgr.1, .inr ⟨_, rfl, Nat.le_refl _, by simp, hgr.2⟩⟩
end

section
variable {P : Program} {N : Nat} {F : Fr} {h : Heap} {e : Env} {pl : List Plc} {rw : List Row} {m : TM} {t : Array Value} {dd : List Deferred} {w w' : World}
  {o : Oper} {K : Act → World → Prop} {Q : Exit → Act → World → Prop} {d : Nat}

theorem row_none {base : Nat} {r : Row} (h : w.ownsRow base r.E r.sz (.slice r.a r.n r.c) r.n r.xs) (ha : r.a = none) : r.xs = [] ∧ r.n = 0 := by
  rcases h.2 with ⟨_, h0⟩ | ⟨g, cap, cur, hv, _⟩
  · refine ⟨List.eq_nil_of_length_eq_zero (by rw [h.1, h0]; simp), h0⟩
  · rw [ha] at hv; simp at hv
theorem row_some {base : Nat} {r : Row} {ad : Addr} (h : w.ownsRow base r.E r.sz (.slice r.a r.n r.c) r.n r.xs) (ha : r.a = some ad) : ad.off = 0 ∧ ad.spot = none ∧ base ≤ ad.block ∧ ad.block < w.heap.size ∧
    ∀ j, j < r.xs.length → w.cell? ⟨ad.block, j, none⟩ = r.xs[j]? := by
  have hh := h
  rcases h.2 with ⟨hv, _⟩ | ⟨g, cap, cur, hv, hb, hg, _⟩
  · rw [ha] at hv; simp at hv
  · rw [ha] at hv
    simp only [Value.slice.injEq, Option.some.injEq, true_and] at hv
    obtain ⟨rfl, _⟩ := hv
    refine ⟨rfl, rfl, hb, (Array.getElem?_eq_some_iff.1 hg).1, fun j hj => ?_⟩
    rw [ha] at hh
    exact hh.cellAt j (by rw [← hh.1]; exact hj)
theorem Mem.row (hm : Mem F h e pl rw w) {i : Nat} {r : Row} (hi : rw[i]? = some r) : w.ownsRow F.w.heap.size r.E r.sz (.slice r.a r.n r.c) r.n r.xs := let ⟨_, m⟩ := hm; (m.rws i r hi).own
/-- The cells of a row. -/
theorem Mem.rowCell (hm : Mem F h e pl rw w) {i : Nat} {r : Row} (hi : rw[i]? = some r) : ∀ j u, r.xs[j]? = some u → ∃ ad, r.a = some ad ∧ ad.spot = none ∧ w.cell? ⟨ad.block, ad.off + j, none⟩ = some u := by
  intro j u hu
  have hown := hm.row hi
  cases ha : r.a with
  | none => rw [(row_none hown ha).1] at hu; simp at hu
  | some ad =>
    obtain ⟨h1, h2, _, _, h5⟩ := row_some hown ha
    refine ⟨ad, rfl, h2, ?_⟩
    rw [h1, Nat.zero_add, h5 j, hu]
    rcases Nat.lt_or_ge j r.xs.length with h' | h'
    · exact h'
    · rw [List.getElem?_eq_none h'] at hu; cases hu

theorem Mem.nilRow (E : TypeId) (sz : Nat) (hm : Mem F h e pl rw w) : Mem F h e pl (rw ++ [⟨none, 0, 0, E, sz, [], 0⟩]) w := by
  obtain ⟨ow, m⟩ := hm
  refine ⟨ow, m.below, m.le, m.old, m.has, m.ows, m.hown, m.pls, fun i r hr => ?_, m.ext⟩
  rcases getElem?_append_one hr with ⟨_, hr⟩ | ⟨_, rfl⟩
  · exact m.rws i r hr
  · exact ⟨World.ownsRow_nil _ _ _ _, Nat.le_refl _, fun ad ha => (by cases ha), fun v hv => by simp at hv⟩
/-- A new block becomes a row. -/
theorem Mem.newRow {r : Row} {b : Nat} (hm : Mem F h e pl rw w) (hg : w.grownBy w' none) (hb : w.heap.size ≤ b) (hb' : b < w'.heap.size) (ha : r.a = some ⟨b, 0, none⟩)
    (hown : w'.ownsRow F.w.heap.size r.E r.sz (.slice r.a r.n r.c) r.n r.xs) (hf : r.frz = 0) (h1 : ∀ v ∈ r.xs, isTup v = false) : Mem F h e pl (rw ++ [r]) w' := by
  obtain ⟨ow, m⟩ := hm
  have m' := m.grow hg
  have hn : ow b = none := by
    cases hx : ow b with
    | none => rfl
    | some x => have := (m.ows b x hx).2; omega
  have hhn : ∀ o, h b o = none := fun o => by
    cases hx : h b o with
    | none => rfl
    | some x => have := (m.has b o x hx).1; omega
  refine ⟨fun k => if k = b then some (.inr rw.length) else ow k, m'.below, m'.le, m'.old, m'.has, ?_, ?_, ?_, ?_, fun k x hx => ?_⟩
  · intro k x hk
    by_cases hkb : k = b
    · subst hkb; exact ⟨Nat.le_trans m.below.size hb, hb'⟩
    · simp only [hkb, if_false] at hk; exact m'.ows k x hk
  · intro k o x i hk hi
    by_cases hkb : k = b
    · subst hkb; rw [hhn o] at hk; cases hk
    · simp only [hkb, if_false] at hi; exact m.hown k o x i hk hi
  · intro i p hp
    have := m'.pls i p hp
    unfold PlcOk at this ⊢
    split at this
    · obtain ⟨q1, q2⟩ := this
      refine ⟨?_, q2⟩
      by_cases hkb : (Env.blk e i).1 = b
      · rw [hkb, hn] at q1; cases q1
      · simp only [hkb, if_false]; exact q1
    · exact this
  · intro i s hs
    rcases getElem?_append_one hs with ⟨hi, hs⟩ | ⟨hi, rfl⟩
    · obtain ⟨q1, q2, q3, q9⟩ := m'.rws i s hs
      refine ⟨q1, q2, fun ad had => ?_, q9⟩
      obtain ⟨q4, q5⟩ := q3 ad had
      refine ⟨?_, q5⟩
      by_cases hkb : ad.block = b
      · rw [hkb, hn] at q4; cases q4
      · simp only [hkb, if_false]; exact q4
    · refine ⟨hown, by omega, fun ad had => ?_, h1⟩
      rw [ha] at had
      cases had
      exact ⟨by simp [hi], fun o _ => hhn o, fun o ho => by omega⟩
  · obtain ⟨h1, h2, h3, h4, h5⟩ := m'.ext k x hx
    have hkb : k ≠ b := fun hkb => by have := (m.ext k x hx).2.1; omega
    exact ⟨h1, h2, h3, by simp only [hkb, if_false]; exact h4, h5⟩
/-- A row is written, or moves. -/
theorem Mem.setRow {i : Nat} {r r' : Row} (hm : Mem F h e pl rw w) (hi : rw[i]? = some r) (hown : w'.ownsRow F.w.heap.size r'.E r'.sz (.slice r'.a r'.n r'.c) r'.n r'.xs)
    (hx : ∀ o, o < r.frz → r'.xs[o]? = r.xs[o]?) (hone : ∀ v ∈ r'.xs, isTup v = false)
    (hc : (r'.a = r.a ∧ r'.frz = r.frz ∧ w.grownBy w' (r.a.map (·.block))) ∨ (∃ g, r'.a = some ⟨g, 0, none⟩ ∧ r'.frz = 0 ∧ w.heap.size ≤ g ∧ g < w'.heap.size ∧ w.grownBy w' none)) : Mem F h e pl (rw.set i r') w' := by
  have hlt : i < rw.length := by
    rcases Nat.lt_or_ge i rw.length with h' | h'
    · exact h'
    · rw [List.getElem?_eq_none h'] at hi; cases hi
  rcases hc with ⟨ha, hf, hg⟩ | ⟨g, ha, hf, hg1, hg2, hg⟩
  · obtain ⟨ow, m⟩ := hm
    have hr := m.rws i r hi
    have hblk : ∀ b, b < w.heap.size → ow b ≠ some (.inr i) → w'.heap[b]? = w.heap[b]? := fun b hb hne => hg.block b hb (by
      cases har : r.a with
      | none => simp
      | some ad => simp; intro hbe; exact hne (by rw [hbe]; exact (hr.blk ad har).1))
    refine ⟨ow, m.below.trans ⟨hg.os, hg.tape, hg.output, hg.size, fun k hk => hblk k (Nat.lt_of_lt_of_le hk m.below.size) (fun hk' => by have := (m.ows _ _ hk').1; omega)⟩, m.le, m.old, ?_, ?_, m.hown, ?_, ?_, fun b x hbx => ?_⟩
    · intro b o v hv
      obtain ⟨q1, q2⟩ := m.has b o v hv
      refine ⟨Nat.lt_of_lt_of_le q1 hg.size, ?_⟩
      by_cases hob : ow b = some (.inr i)
      · -- the row's own block
        cases har : r.a with
        | none =>
          have : w'.heap[b]? = w.heap[b]? := hg.block b q1 (by simp [har])
          rw [look_of_heap this]; exact q2
        | some ad =>
          by_cases hbb : b = ad.block
          · subst hbb
            obtain ⟨_, q5, q6⟩ := hr.blk ad har
            have ho : o < r.frz := by
              rcases Nat.lt_or_ge o r.frz with h' | h'
              · exact h'
              · rw [q5 o h'] at hv; cases hv
            obtain ⟨_, _, _, _, q7⟩ := row_some hown (by rw [ha]; exact har)
            have h3 : r'.xs[o]? = some v := by rw [hx o ho, ← q6 o ho]; exact hv
            refine cell_look ?_ (hone _ (List.mem_of_getElem? h3))
            rw [q7 o, h3]
            rcases Nat.lt_or_ge o r'.xs.length with h' | h'
            · exact h'
            · rw [List.getElem?_eq_none h'] at h3; cases h3
          · have : w'.heap[b]? = w.heap[b]? := hg.block b q1 (by simp [har]; exact hbb)
            rw [look_of_heap this]; exact q2
      · rw [look_of_heap (hblk b q1 hob)]; exact q2
    · intro b x hbx
      have := m.ows b x hbx
      exact ⟨this.1, Nat.lt_of_lt_of_le this.2 hg.size⟩
    · intro j p hp
      have := m.pls j p hp
      unfold PlcOk at this ⊢
      split at this
      · obtain ⟨q1, q2, q3, q4⟩ := this
        exact ⟨q1, q2, by rw [hblk _ (m.ows _ _ q1).2 (by rw [q1]; simp)]; exact q3, q4⟩
      · exact this
    · intro j s hs
      by_cases hji : j = i
      · subst hji
        rw [List.getElem?_set_self hlt] at hs
        cases hs
        refine ⟨hown, ?_, fun ad had => ?_, hone⟩
        · rw [hf]
          rcases Nat.eq_zero_or_pos r.frz with h0 | h0
          · omega
          · have h1 := hr.frz
            have h2 := hx (r.frz - 1) (by omega)
            have h4 : r.xs[r.frz - 1]? = some (r.xs[r.frz - 1]'(by omega)) := List.getElem?_eq_getElem _
            rw [h4] at h2
            have h3 : r.frz - 1 < r'.xs.length := by
              rcases Nat.lt_or_ge (r.frz - 1) r'.xs.length with h' | h'
              · exact h'
              · rw [List.getElem?_eq_none h'] at h2; cases h2
            omega
        · rw [ha] at had
          obtain ⟨q4, q5, q6⟩ := hr.blk ad had
          rw [hf]
          exact ⟨q4, q5, fun o ho => by rw [q6 o ho, hx o ho]⟩
      · rw [List.getElem?_set_ne (Ne.symm hji)] at hs
        obtain ⟨q1, q2, q3, q9⟩ := m.rws j s hs
        refine ⟨q1.kept hg ?_, q2, q3, q9⟩
        cases hsa : s.a with
        | none => left; simp [Value.ownBlock]
        | some ad =>
          right
          simp only [Value.ownBlock]
          intro hbe
          cases har : r.a with
          | none => rw [har] at hbe; simp at hbe
          | some ad' =>
            rw [har] at hbe
            simp at hbe
            have h1 := (q3 ad hsa).1
            have h2 := (hr.blk ad' har).1
            rw [hbe, h2] at h1
            simp at h1
            exact hji h1.symm
    · obtain ⟨h1, h2, h3, h4, h5⟩ := m.ext b x hbx
      exact ⟨h1, Nat.lt_of_lt_of_le h2 hg.size, by rw [hblk b h2 (by rw [h4]; simp)]; exact h3, h4, h5⟩
  · have hm2 := hm.newRow (r := r') hg hg1 hg2 ha hown hf hone
    obtain ⟨ow, m⟩ := hm2
    -- the same rows, the new one at place i
    refine ⟨fun k => if k = g then some (.inr i) else ow k, m.below, m.le, m.old, m.has, ?_, ?_, ?_, ?_, fun k x hx => ?_⟩
    · intro k x hk
      by_cases hkb : k = g
      · subst hkb; exact ⟨Nat.le_trans hm.below.size hg1, hg2⟩
      · simp only [hkb, if_false] at hk; exact m.ows k x hk
    · intro k o' x j hk hj
      by_cases hkb : k = g
      · subst hkb; simp at hj
      · simp only [hkb, if_false] at hj; exact m.hown k o' x j hk hj
    · intro j p hp
      have := m.pls j p hp
      unfold PlcOk at this ⊢
      split at this
      · obtain ⟨q1, q2⟩ := this
        refine ⟨?_, q2⟩
        by_cases hkb : (Env.blk e j).1 = g
        · have := (m.rws rw.length r' (by simp)).blk _ ha
          simp only at this
          rw [hkb, this.1] at q1; simp at q1
        · simp only [hkb, if_false]; exact q1
      · exact this
    · intro j s hs
      have hg3 := (m.rws rw.length r' (by simp)).blk _ ha
      by_cases hji : j = i
      · subst hji
        rw [List.getElem?_set_self hlt] at hs
        cases hs
        refine ⟨hown, by omega, fun ad had => ?_, hone⟩
        rw [ha] at had
        cases had
        exact ⟨by simp, fun o' ho' => hg3.2.1 o' (by omega), fun o' ho' => by omega⟩
      · rw [List.getElem?_set_ne (Ne.symm hji)] at hs
        have hjl : j < rw.length := by
          rcases Nat.lt_or_ge j rw.length with h' | h'
          · exact h'
          · rw [List.getElem?_eq_none h'] at hs; cases hs
        obtain ⟨q1, q2, q3, q9⟩ := m.rws j s (by rw [List.getElem?_append_left hjl]; exact hs)
        refine ⟨q1, q2, fun ad had => ?_, q9⟩
        obtain ⟨q4, q5⟩ := q3 ad had
        refine ⟨?_, q5⟩
        by_cases hkb : ad.block = g
        · rw [hkb, hg3.1] at q4
          simp at q4
          omega
        · simp only [hkb, if_false]; exact q4
    · obtain ⟨h1, h2, h3, h4, h5⟩ := m.ext k x hx
      have hg3 := (m.rws rw.length r' (by simp)).blk _ ha
      have hkb : k ≠ g := fun hkb => by rw [hkb] at h4; simp only at hg3; rw [hg3.1] at h4; cases h4
      exact ⟨h1, h2, h3, by simp only [hkb, if_false]; exact h4, h5⟩

/-- A slice whose cells are settled. -/
def SliceIn (h : Heap) (a : Option Addr) (xs : List Value) : Prop := ∀ o x, xs[o]? = some x → ∃ ad, a = some ad ∧ ad.spot = none ∧ h ad.block (ad.off + o) = some x
theorem SliceIn.mono {h h' : Heap} {a : Option Addr} {xs : List Value} (hs : SliceIn h a xs) (hle : Heap.le h h') : SliceIn h' a xs := fun o x hx => by
  obtain ⟨ad, h1, h2, h3⟩ := hs o x hx
  exact ⟨ad, h1, h2, hle _ _ _ h3⟩
/-- A row settles. -/
theorem Mem.settle (hm : Mem F h e pl rw w) {i : Nat} {r : Row} (hi : rw[i]? = some r) :
    ∃ h', Heap.le h h' ∧ SliceIn h' r.a r.xs ∧ Mem F h' e pl (rw.set i { r with frz := r.xs.length }) w := by
  have hlt : i < rw.length := by
    rcases Nat.lt_or_ge i rw.length with h' | h'
    · exact h'
    · rw [List.getElem?_eq_none h'] at hi; cases hi
  have hown := hm.row hi
  obtain ha | ⟨ad, ha⟩ : r.a = none ∨ ∃ ad, r.a = some ad := by cases r.a <;> simp
  · have hx := (row_none hown ha).1
    refine ⟨h, Heap.le_refl _, fun o x hxo => by rw [hx] at hxo; simp at hxo, ?_⟩
    have hf : r.frz = r.xs.length := by
      obtain ⟨ow, m⟩ := hm
      have := (m.rws i r hi).frz
      rw [hx] at this ⊢
      simpa using this
    have : rw.set i { r with frz := r.xs.length } = rw := by
      apply List.ext_getElem?
      intro j
      by_cases hj : j = i
      · subst hj
        rw [List.getElem?_set_self hlt, hi]
        congr 1
        cases r; simp at hf ⊢; exact hf.symm
      · rw [List.getElem?_set_ne (Ne.symm hj)]
    rw [this]
    exact hm
  · obtain ⟨s1, s2, s3, s4, s5⟩ := row_some hown ha
    obtain ⟨ow, m⟩ := hm
    have hr := m.rws i r hi
    obtain ⟨q4, q5, q6⟩ := hr.blk ad ha
    refine ⟨fun b o => if b = ad.block then (if o < r.frz then h b o else r.xs[o]?) else h b o, ?_, ?_, ⟨ow, m.below, ?_, ?_, ?_, m.ows, ?_, ?_, ?_, fun k x hx => ?_⟩⟩
    · intro b o v hv
      by_cases hb : b = ad.block
      · subst hb
        simp only [if_true]
        by_cases ho : o < r.frz
        · simp only [ho, if_true]; exact hv
        · rw [q5 o (by omega)] at hv; cases hv
      · simp only [hb, if_false]; exact hv
    · intro o x hx
      refine ⟨ad, ha, s2, ?_⟩
      simp only [if_true, s1, Nat.zero_add]
      by_cases ho : o < r.frz
      · simp only [ho, if_true]; rw [q6 o ho]; exact hx
      · simp only [ho, if_false]; exact hx
    · refine Heap.le_trans m.le ?_
      intro b o v hv
      by_cases hb : b = ad.block
      · subst hb
        simp only [if_true]
        by_cases ho : o < r.frz
        · simp only [ho, if_true]; exact hv
        · rw [q5 o (by omega)] at hv; cases hv
      · simp only [hb, if_false]; exact hv
    · intro b o x hx
      by_cases hb : b = ad.block
      · subst hb; exact .inr s3
      · simp only [hb, if_false] at hx; exact m.old b o x hx
    · intro b o v hv
      by_cases hb : b = ad.block
      · subst hb
        simp only [if_true] at hv
        by_cases ho : o < r.frz
        · simp only [ho, if_true] at hv; exact m.has _ _ _ hv
        · simp only [ho, if_false] at hv
          refine ⟨s4, cell_look ?_ (hr.one _ (List.mem_of_getElem? hv))⟩
          rw [s5 o, hv]
          rcases Nat.lt_or_ge o r.xs.length with h' | h'
          · exact h'
          · rw [List.getElem?_eq_none h'] at hv; cases hv
      · simp only [hb, if_false] at hv; exact m.has b o v hv
    · intro b o x j hv hj
      by_cases hb : b = ad.block
      · subst hb; rw [q4] at hj; simp at hj
      · simp only [hb, if_false] at hv; exact m.hown b o x j hv hj
    · intro j p hp
      have := m.pls j p hp
      unfold PlcOk at this ⊢
      split at this
      · obtain ⟨t1, t2, t3, t4⟩ := this
        refine ⟨t1, t2, t3, fun o => ?_⟩
        have hb : (Env.blk e j).1 ≠ ad.block := fun hb => by rw [hb, q4] at t1; simp at t1
        simp only [hb, if_false]; exact t4 o
      · intro k c hc
        have hk := this k c hc
        by_cases hb : (Env.blk e j).1 = ad.block
        · simp only [hb, if_true]
          rw [hb] at hk
          by_cases ho : (Env.blk e j).2 + k < r.frz
          · simp only [ho, if_true]; exact hk
          · rw [q5 _ (by omega)] at hk; cases hk
        · simp only [hb, if_false]; exact hk
    · intro j s hs
      by_cases hji : j = i
      · subst hji
        rw [List.getElem?_set_self hlt] at hs
        cases hs
        refine ⟨hown, Nat.le_refl _, fun ad' had => ?_, hr.one⟩
        simp only at had
        rw [ha] at had
        cases had
        refine ⟨q4, fun o ho => ?_, fun o ho => ?_⟩
        · simp only at ho
          simp only [if_true]
          have : ¬ o < r.frz := by have := hr.frz; omega
          simp only [this, if_false]
          exact List.getElem?_eq_none ho
        · simp only [if_true]
          by_cases ho' : o < r.frz
          · simp only [ho', if_true]; exact q6 o ho'
          · simp only [ho', if_false]
      · rw [List.getElem?_set_ne (Ne.symm hji)] at hs
        obtain ⟨t1, t2, t3, t9⟩ := m.rws j s hs
        refine ⟨t1, t2, fun ad' had => ?_, t9⟩
        obtain ⟨t4, t5, t6⟩ := t3 ad' had
        have hb : ad'.block ≠ ad.block := fun hb => by rw [hb, q4] at t4; simp at t4; exact hji t4.symm
        simp only [hb, if_false]
        exact ⟨t4, t5, t6⟩
    · obtain ⟨h1, h2, h3, h4, h5⟩ := m.ext k x hx
      have hb : k ≠ ad.block := fun hb => by rw [hb, q4] at h4; cases h4
      exact ⟨h1, h2, h3, h4, h5.same fun o => by simp only [hb, if_false]⟩
end
end Go.Proofs.Ytokchpjijlebiaa
