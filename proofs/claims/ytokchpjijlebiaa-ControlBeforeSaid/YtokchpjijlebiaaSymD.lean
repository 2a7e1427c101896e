/- The memory of a call: settled cells, places of its own, rows of its own. -/
import Derived.Test.YtokchpjijlebiaaSymC
import Derived.Laws.OwnMore
set_option linter.all false
namespace Go.Proofs.Ytokchpjijlebiaa
open Go Go.RowKit

/-- Settled cells: nobody writes them any more. -/
abbrev Heap := Nat → Nat → Option Value
def Heap.le (h h' : Heap) : Prop := ∀ b o v, h b o = some v → h' b o = some v
theorem Heap.le_refl (h : Heap) : Heap.le h h := fun _ _ _ x => x
theorem Heap.le_trans {a b c : Heap} (h : Heap.le a b) (k : Heap.le b c) : Heap.le a c := fun x o v hx => k x o v (h x o v hx)
/-- What a map's block holds, as a value. -/
def encEntry (e : MapEntry) : Value := .tuple #[e.key, e.val, .int .i64 e.born]
def encMap (es : Array MapEntry) (clock : Nat) : Value := .tuple (#[.int .i64 clock] ++ es.map encEntry)
theorem encMap_inj {es es' : Array MapEntry} {c c' : Nat} (h : encMap es c = encMap es' c') : es = es' ∧ c = c' := by
  unfold encMap at h
  simp only [Value.tuple.injEq] at h
  have h1 := congrArg Array.toList h
  simp only [Array.toList_append, Array.toList_map, List.cons_append, List.nil_append, List.cons.injEq, Value.int.injEq, true_and] at h1
  obtain ⟨h2, h3⟩ := h1
  refine ⟨?_, by omega⟩
  apply Array.ext'
  exact List.map_inj_right (f := encEntry) (fun a b hab => by
    cases a; cases b
    simp [encEntry] at hab
    simp [hab]; omega) |>.1 h3
def isTup : Value → Bool
  | .tuple _ => true
  | _ => false
/-- What lies at a place of a world: a cell, or a whole map. -/
def look (w : World) (b o : Nat) : Option Value := match w.heap[b]? with
  | some (.map es c) => if o = 0 then some (encMap es c) else none
  | _ => (w.cell? ⟨b, o, none⟩).filter fun v => !isTup v
theorem look_of_heap {w w' : World} {b : Nat} (h : w'.heap[b]? = w.heap[b]?) (o : Nat) : look w' b o = look w b o := by
  unfold look
  rw [h, World.cell?_of_block (w := w) h]
theorem look_cell {w : World} {b o : Nat} {v : Value} (h : look w b o = some v) (hv : isTup v = false) : w.cell? ⟨b, o, none⟩ = some v := by
  unfold look at h
  split at h
  · split at h
    · cases h; cases hv
    · cases h
  · exact (Option.filter_eq_some_iff.1 h).1
theorem cell_look {w : World} {b o : Nat} {v : Value} (h : w.cell? ⟨b, o, none⟩ = some v) (hv : isTup v = false) : look w b o = some v := by
  unfold look
  split
  · rename_i hb; simp [World.cell?, hb] at h
  · rw [h]; simp [Option.filter, hv]
theorem look_map {w : World} {b : Nat} {es : Array MapEntry} {c : Nat} (h : look w b 0 = some (encMap es c)) : w.heap[b]? = some (.map es c) := by
  unfold look at h
  split at h
  · rename_i es' c' hb
    simp only [if_true, Option.some.injEq] at h
    obtain ⟨rfl, rfl⟩ := encMap_inj h
    exact hb
  · have := (Option.filter_eq_some_iff.1 h).2
    simp [isTup, encMap] at this
/-- What lies settled in a world. -/
def Has (h : Heap) (w : World) : Prop := ∀ b o v, h b o = some v → b < w.heap.size ∧ look w b o = some v
theorem isTup_of_one {v : Value} (h : v.oneCell' = true) : isTup v = false := by cases v <;> first | rfl | cases h
theorem SC.den_isTup (e : Env) (c : SC) : isTup (c.den e) = false := by cases c <;> rfl

/-- A slice that the call itself grows: base, length, capacity; its element's type and size; its cells; how many are settled. -/
structure Row where
  a : Option Addr
  n : Nat
  c : Nat
  E : TypeId
  sz : Nat
  xs : List Value
  frz : Nat
/-- Where a call began. -/
structure Fr where
  w : World
  h : Heap
  X : Nat → Option Obj
def noX : Nat → Option Obj := fun _ => none
abbrev Owner := Nat → Option (Nat ⊕ Nat)

def PlcOk (ow : Owner) (h : Heap) (e : Env) (w : World) (i : Nat) (p : Plc) : Prop :=
  match p.own with
  | some T => ow (e.blk i).1 = some (.inl i) ∧ (e.blk i).2 = 0 ∧ w.heap[(e.blk i).1]? = some (.cells (p.cells.map (SC.den e)).toArray T (0, 0)) ∧ ∀ o, h (e.blk i).1 o = none
  | none => ∀ j c, p.cells[j]? = some c → h (e.blk i).1 ((e.blk i).2 + j) = some (c.den e)
structure RowOk (F : Fr) (ow : Owner) (h : Heap) (w : World) (i : Nat) (r : Row) : Prop where
  own : w.ownsRow F.w.heap.size r.E r.sz (.slice r.a r.n r.c) r.n r.xs
  frz : r.frz ≤ r.xs.length
  blk : ∀ ad, r.a = some ad → ow ad.block = some (.inr i) ∧ (∀ o, r.frz ≤ o → h ad.block o = none) ∧ (∀ o, o < r.frz → h ad.block o = r.xs[o]?)
  one : ∀ v ∈ r.xs, isTup v = false

/-- Is an object one of cells? -/
def isCells : Obj → Bool
  | .cells .. => true
  | _ => false
/-- What is settled in a block that is held as a whole. -/
def ExtH (F : Fr) (h : Heap) (b : Nat) (x : Obj) : Prop := (∀ o v, h b o = some v → F.h b o = some v) ∧ (isCells x = false → ∀ o, h b o = none)
theorem ExtH.same {F : Fr} {h h' : Heap} {b : Nat} {x : Obj} (H : ExtH F h b x) (hh : ∀ o, h' b o = h b o) : ExtH F h' b x := ⟨fun o v hv => H.1 o v (by rw [← hh o]; exact hv), fun hx o => (by rw [hh o]; exact H.2 hx o)⟩
theorem ExtH.none {F : Fr} {h : Heap} {b : Nat} {x : Obj} (hh : ∀ o, h b o = none) : ExtH F h b x := ⟨fun o v hv => (by rw [hh o] at hv; cases hv), fun _ => hh⟩
structure MemC (F : Fr) (ow : Owner) (h : Heap) (e : Env) (pl : List Plc) (rw : List Row) (w : World) : Prop where
  below : Below F.w.heap.size F.w w
  le : Heap.le F.h h
  old : ∀ b o x, h b o = some x → F.h b o = some x ∨ F.w.heap.size ≤ b
  has : Has h w
  ows : ∀ b x, ow b = some x → F.w.heap.size ≤ b ∧ b < w.heap.size
  hown : ∀ b o x i, h b o = some x → ow b = some (.inl i) → False
  pls : ∀ i p, pl[i]? = some p → PlcOk ow h e w i p
  rws : ∀ i r, rw[i]? = some r → RowOk F ow h w i r
  ext : ∀ b x, F.X b = some x → F.w.heap.size ≤ b ∧ b < w.heap.size ∧ w.heap[b]? = some x ∧ ow b = none ∧ ExtH F h b x
/-- What is known of the memory. -/
def Mem (F : Fr) (h : Heap) (e : Env) (pl : List Plc) (rw : List Row) (w : World) : Prop := ∃ ow, MemC F ow h e pl rw w

section
variable {F : Fr} {ow : Owner} {h : Heap} {e : Env} {pl : List Plc} {rw : List Row} {w w' : World}

theorem Mem.begin (h : Heap) (w : World) (hh : Has h w) : Mem ⟨w, h, noX⟩ h [] [] [] w :=
  ⟨fun _ => none, Below.refl _ _, Heap.le_refl _, fun _ _ _ hx => .inl hx, hh, (by simp), (by simp), (by simp), (by simp), (by simp [noX])⟩

theorem Mem.has (hm : Mem F h e pl rw w) : Has h w := let ⟨_, m⟩ := hm; m.has
theorem Mem.below (hm : Mem F h e pl rw w) : Below F.w.heap.size F.w w := let ⟨_, m⟩ := hm; m.below
theorem Mem.size (hm : Mem F h e pl rw w) : F.w.heap.size ≤ w.heap.size := hm.below.size

/-- What the places say. -/
theorem Mem.plOk (hm : Mem F h e pl rw w) : PlOk e pl w := by
  obtain ⟨ow, m⟩ := hm
  intro i p hp j c hc
  have := m.pls i p hp
  unfold PlcOk at this
  split at this
  · rename_i T hT
    obtain ⟨_, h0, hg, _⟩ := this
    rw [h0, Nat.zero_add, cell_of_row w _ j _ _ _ hg]
    simp [hc]
  · exact look_cell (m.has _ _ _ (this j c hc)).2 (SC.den_isTup e c)

theorem cell_of_heap {w w' : World} {b : Nat} (h : w'.heap[b]? = w.heap[b]?) (o : Nat) : w'.cell? ⟨b, o, none⟩ = w.cell? ⟨b, o, none⟩ := World.cell?_of_block (w := w) h

/-- A world that has new blocks alone. -/
theorem MemC.grow (m : MemC F ow h e pl rw w) (hg : w.grownBy w' none) : MemC F ow h e pl rw w' := by
  have hb : ∀ b, b < w.heap.size → w'.heap[b]? = w.heap[b]? := fun b hb => hg.block b hb (by simp)
  refine ⟨m.below.trans ⟨hg.os, hg.tape, hg.output, hg.size, fun k hk => hb k (Nat.lt_of_lt_of_le hk m.below.size)⟩, m.le, m.old, ?_, ?_, m.hown, ?_, ?_, ?_⟩
  · intro b o v hv
    obtain ⟨h1, h2⟩ := m.has b o v hv
    exact ⟨Nat.lt_of_lt_of_le h1 hg.size, by rw [look_of_heap (hb b h1)]; exact h2⟩
  · intro b x hx
    have := m.ows b x hx
    exact ⟨this.1, Nat.lt_of_lt_of_le this.2 hg.size⟩
  · intro i p hp
    have := m.pls i p hp
    unfold PlcOk at this ⊢
    split at this
    · rename_i T hT
      obtain ⟨h1, h2, h3, h4⟩ := this
      exact ⟨h1, h2, by rw [hb _ (m.ows _ _ h1).2]; exact h3, h4⟩
    · exact this
  · intro i r hr
    obtain ⟨h1, h2, h3, h4⟩ := m.rws i r hr
    exact ⟨h1.kept hg (by cases r.a <;> simp [Value.ownBlock]), h2, h3, h4⟩
  · intro b x hx
    obtain ⟨h1, h2, h3, h4, h5⟩ := m.ext b x hx
    exact ⟨h1, Nat.lt_of_lt_of_le h2 hg.size, by rw [hb b h2]; exact h3, h4, h5⟩
theorem Mem.grow (hm : Mem F h e pl rw w) (hg : w.grownBy w' none) : Mem F h e pl rw w' := let ⟨ow, m⟩ := hm; ⟨ow, m.grow hg⟩
theorem Mem.drew (hm : Mem F h e pl rw w) : Mem F h e pl rw w.drew := hm.grow ⟨rfl, rfl, rfl, Nat.le_refl _, fun _ _ _ => rfl⟩

/-- pointers to places that there are -/
def SC.okB (n : Nat) : SC → Bool
  | .ptr i _ => decide (i < n)
  | _ => true
def okSC (n : Nat) : List SC → Bool
  | [] => true
  | c :: r => c.okB n && okSC n r
def okPl (n : Nat) : List Plc → Bool
  | [] => true
  | p :: r => okSC n p.cells && okPl n r
def SA.okB (n : Nat) : SA → Bool
  | .c x => x.okB n
  | .agg xs => okSC n xs
def okSA (n : Nat) : List SA → Bool
  | [] => true
  | c :: r => c.okB n && okSA n r
def SV.okB (n : Nat) : SV → Bool
  | .one x => x.okB n
  | .tup xs => okSA n xs
  | .undef => true
def okTM (n : Nat) : TM → Bool
  | [] => true
  | (_, v) :: r => v.okB n && okTM n r
theorem blk_append (e : Env) (x : Nat × Nat) : ∀ {i : Nat}, i < e.length → Env.blk (e ++ [x]) i = e.blk i := by
  induction e with
  | nil => intro i hi; simp at hi
  | cons y r ih =>
    intro i hi
    cases i with
    | zero => rfl
    | succ i => exact ih (by simpa using hi)
theorem blk_last (e : Env) (x : Nat × Nat) : Env.blk (e ++ [x]) e.length = x := by
  induction e with
  | nil => rfl
  | cons y r ih => exact ih
theorem den_append {e : Env} {x : Nat × Nat} {c : SC} (h : c.okB e.length = true) : c.den (e ++ [x]) = c.den e := by
  cases c <;> first | rfl | skip
  case ptr i off =>
    have hi : i < e.length := by simpa [SC.okB] using h
    simp [SC.den, blk_append e x hi]
theorem okSC_all {n : Nat} : ∀ {cs : List SC}, okSC n cs = true → ∀ c ∈ cs, c.okB n = true
  | [], _, c, hc => by simp at hc
  | x :: r, h, c, hc => by
    simp only [okSC, Bool.and_eq_true] at h
    rcases List.mem_cons.1 hc with rfl | hc
    · exact h.1
    · exact okSC_all h.2 c hc
theorem map_den_append {e : Env} {x : Nat × Nat} {cs : List SC} (h : okSC e.length cs = true) : cs.map (SC.den (e ++ [x])) = cs.map (SC.den e) :=
  List.map_congr_left fun c hc => den_append (okSC_all h c hc)
theorem denA_append {e : Env} {x : Nat × Nat} {c : SA} (h : c.okB e.length = true) : c.den (e ++ [x]) = c.den e := by
  cases c with
  | c x => exact den_append h
  | agg xs => simp only [SA.den]; rw [map_den_append h]
theorem denV_append {e : Env} {x : Nat × Nat} {c : SV} (h : c.okB e.length = true) : c.den (e ++ [x]) = c.den e := by
  cases c with
  | one x => exact denA_append h
  | tup xs =>
    simp only [SV.den]
    congr 2
    have : ∀ (xs : List SA), okSA e.length xs = true → xs.map (SA.den (e ++ [x])) = xs.map (SA.den e) := by
      intro xs
      induction xs with
      | nil => simp
      | cons y r ih =>
        intro h
        simp only [okSA, Bool.and_eq_true] at h
        simp [denA_append h.1, ih h.2]
    exact this xs h
  | undef => rfl
theorem okTM_get {n : Nat} : ∀ {m : TM}, okTM n m = true → ∀ {k v}, m.get k = some v → v.okB n = true
  | [], _, k, v, hk => by simp [TM.get] at hk
  | (j, u) :: r, h, k, v, hk => by
    simp only [okTM, Bool.and_eq_true] at h
    unfold TM.get at hk
    cases hb : Nat.beq j k with
    | true => rw [hb] at hk; simp at hk; subst hk; exact h.1
    | false => rw [hb] at hk; exact okTM_get h.2 hk
theorem Kn.push {N : Nat} {m : TM} {t : Array Value} (hk : Kn N e m t) (x : Nat × Nat) (h : okTM e.length m = true) : Kn N (e ++ [x]) m t :=
  ⟨hk.size, fun k v hv => by rw [denV_append (okTM_get h hv)]; exact hk.get k v hv⟩
theorem okPl_get {n : Nat} : ∀ {pl : List Plc}, okPl n pl = true → ∀ {i : Nat} {p : Plc}, pl[i]? = some p → okSC n p.cells = true
  | [], _, i, p, hp => by simp at hp
  | q :: r, h, i, p, hp => by
    simp only [okPl, Bool.and_eq_true] at h
    cases i with
    | zero => simp at hp; subst hp; exact h.1
    | succ i => exact okPl_get h.2 (by simpa using hp)
theorem getElem?_append_one {α : Type} {l : List α} {x y : α} {i : Nat} (h : (l ++ [x])[i]? = some y) : (i < l.length ∧ l[i]? = some y) ∨ (i = l.length ∧ y = x) := by
  rcases Nat.lt_trichotomy i l.length with h1 | h1 | h1
  · rw [List.getElem?_append_left h1] at h; exact .inl ⟨h1, h⟩
  · subst h1; simp at h; exact .inr ⟨rfl, h.symm⟩
  · rw [List.getElem?_eq_none (by simp; omega)] at h; cases h
theorem PlcOk.push {ow : Owner} {i : Nat} {p : Plc} (x : Nat × Nat) (hi : i < e.length) (hc : okSC e.length p.cells = true) (h1 : PlcOk ow h e w i p) : PlcOk ow h (e ++ [x]) w i p := by
  unfold PlcOk at *
  rw [blk_append e x hi, map_den_append hc]
  split at h1
  · exact h1
  · intro j c hj
    rw [den_append (okSC_all hc c (List.mem_of_getElem? hj))]
    exact h1 j c hj
/-- A new block becomes a place of the call's own. -/
theorem Mem.newPlc {b : Nat} {T : TypeId} {cs : List SC} (hm : Mem F h e pl rw w) (hg : w.grownBy w' none) (hb : w.heap.size ≤ b) (hb' : b < w'.heap.size)
    (hv : w'.heap[b]? = some (.cells (cs.map (SC.den e)).toArray T (0, 0))) (hl : pl.length = e.length) (h1 : okPl e.length pl = true) (h2 : okSC e.length cs = true) :
    Mem F h (e ++ [(b, 0)]) (pl ++ [⟨cs, some T⟩]) rw w' := by
  obtain ⟨ow, m⟩ := hm
  have m' := m.grow hg
  have hn : ow b = none := by
    cases hx : ow b with
    | none => rfl
    | some x => have := (m.ows b x hx).2; omega
  have hhn : ∀ o, h b o = none := fun o => by
    cases hx : h b o with
    | none => rfl
    | some x => have := (m.has b o x hx).1; omega
  refine ⟨fun k => if k = b then some (.inl e.length) else ow k, m'.below, m'.le, m'.old, m'.has, ?_, ?_, ?_, ?_, ?_⟩
  · intro k x hk
    by_cases hkb : k = b
    · subst hkb; exact ⟨Nat.le_trans m.below.size hb, hb'⟩
    · simp only [hkb, if_false] at hk; exact m'.ows k x hk
  · intro k o x i hk hi
    by_cases hkb : k = b
    · subst hkb; rw [hhn o] at hk; cases hk
    · simp only [hkb, if_false] at hi; exact m.hown k o x i hk hi
  · intro i p hp
    rcases getElem?_append_one hp with ⟨hi, hp⟩ | ⟨hi, rfl⟩
    · have := (m'.pls i p hp).push (b, 0) (by omega) (okPl_get h1 hp)
      unfold PlcOk at this ⊢
      split at this
      · obtain ⟨q1, q2⟩ := this
        refine ⟨?_, q2⟩
        by_cases hkb : (Env.blk (e ++ [(b, 0)]) i).1 = b
        · rw [hkb, hn] at q1; cases q1
        · simp only [hkb, if_false]; exact q1
      · exact this
    · rw [hi, hl]
      unfold PlcOk
      simp only [blk_last, if_true, true_and, map_den_append h2]
      exact ⟨hv, hhn⟩
  · intro i r hr
    obtain ⟨q1, q2, q3, q9⟩ := m'.rws i r hr
    refine ⟨q1, q2, fun ad ha => ?_, q9⟩
    obtain ⟨q4, q5⟩ := q3 ad ha
    refine ⟨?_, q5⟩
    by_cases hkb : ad.block = b
    · rw [hkb, hn] at q4; cases q4
    · simp only [hkb, if_false]; exact q4
  · intro k x hx
    obtain ⟨h1, h2, h3, h4, h5⟩ := m'.ext k x hx
    have hkb : k ≠ b := fun hkb => by have := (m.ext k x hx).2.1; omega
    exact ⟨h1, h2, h3, by simp only [hkb, if_false]; exact h4, h5⟩
/-- Settled cells as a place that is read. -/
theorem Mem.addPlc {b o : Nat} {cs : List SC} (hm : Mem F h e pl rw w) (hc : ∀ j c, cs[j]? = some c → h b (o + j) = some (c.den e)) (hl : pl.length = e.length) (h1 : okPl e.length pl = true) (h2 : okSC e.length cs = true) :
    Mem F h (e ++ [(b, o)]) (pl ++ [⟨cs, none⟩]) rw w := by
  obtain ⟨ow, m⟩ := hm
  refine ⟨ow, m.below, m.le, m.old, m.has, m.ows, m.hown, ?_, m.rws, m.ext⟩
  intro i p hp
  rcases getElem?_append_one hp with ⟨hi, hp⟩ | ⟨hi, rfl⟩
  · exact (m.pls i p hp).push (b, o) (by omega) (okPl_get h1 hp)
  · rw [hi, hl]
    unfold PlcOk
    simp only [blk_last]
    intro j c hj
    rw [den_append (okSC_all h2 c (List.mem_of_getElem? hj))]
    exact hc j c hj
/-- A place of the call's own is written. -/
theorem Mem.setPlc {i : Nat} {T : TypeId} {cs cs' : List SC} (hm : Mem F h e pl rw w) (hp : pl[i]? = some ⟨cs, some T⟩) (hg : w.grownBy w' (some (e.blk i).1))
    (hv : w'.heap[(e.blk i).1]? = some (.cells (cs'.map (SC.den e)).toArray T (0, 0))) : Mem F h e (pl.set i ⟨cs', some T⟩) rw w' := by
  obtain ⟨ow, m⟩ := hm
  have hpi := m.pls i _ hp
  unfold PlcOk at hpi
  obtain ⟨ho, h0, hh, hn⟩ := hpi
  have hb : ∀ b, b < w.heap.size → b ≠ (e.blk i).1 → w'.heap[b]? = w.heap[b]? := fun b hb hne => hg.block b hb (by simpa using hne)
  have hlo := (m.ows _ _ ho).1
  refine ⟨ow, m.below.trans ⟨hg.os, hg.tape, hg.output, hg.size, fun k hk => hb k (Nat.lt_of_lt_of_le hk m.below.size) (by omega)⟩, m.le, m.old, ?_, ?_, m.hown, ?_, ?_, fun b x hx => ?_⟩
  · intro b o v hx
    obtain ⟨q1, q2⟩ := m.has b o v hx
    refine ⟨Nat.lt_of_lt_of_le q1 hg.size, ?_⟩
    rw [look_of_heap (hb b q1 (fun hbe => by rw [hbe, hn o] at hx; cases hx))]
    exact q2
  · intro b x hx
    have := m.ows b x hx
    exact ⟨this.1, Nat.lt_of_lt_of_le this.2 hg.size⟩
  · intro j p hj
    by_cases hji : j = i
    · subst hji
      have hlt : j < pl.length := getElem?_lt' hp
      rw [List.getElem?_set_self hlt] at hj
      cases hj
      unfold PlcOk
      exact ⟨ho, h0, hv, hn⟩
    · rw [List.getElem?_set_ne (Ne.symm hji)] at hj
      have := m.pls j p hj
      unfold PlcOk at this ⊢
      split at this
      · obtain ⟨q1, q2, q3, q4⟩ := this
        refine ⟨q1, q2, ?_, q4⟩
        rw [hb _ (m.ows _ _ q1).2 (fun hbe => by rw [hbe, ho] at q1; simp at q1; exact hji q1.symm)]
        exact q3
      · exact this
  · intro j r hr
    obtain ⟨q1, q2, q3, q9⟩ := m.rws j r hr
    refine ⟨q1.kept hg ?_, q2, q3, q9⟩
    cases ha : r.a with
    | none => left; simp [Value.ownBlock]
    | some ad =>
      right
      simp only [Value.ownBlock, ne_eq, Option.some.injEq]
      intro hbe
      have := (q3 ad ha).1
      rw [hbe, ho] at this
      simp at this
  · obtain ⟨h1, h2, h3, h4, h5⟩ := m.ext b x hx
    exact ⟨h1, Nat.lt_of_lt_of_le h2 hg.size, by rw [hb b h2 (fun hbe => by rw [hbe, ho] at h4; cases h4)]; exact h3, h4, h5⟩
where
  getElem?_lt' {α : Type} {l : List α} {k : Nat} {x : α} (h : l[k]? = some x) : k < l.length := by
    rcases Nat.lt_or_ge k l.length with h' | h'
    · exact h'
    · rw [List.getElem?_eq_none h'] at h; cases h
end
end Go.Proofs.Ytokchpjijlebiaa
