/- What a proof leans on: a machine that steps through code, and what functions compute. -/
import Derived.Test.YtkpgggfibljflaaGreatDoorGnS01
import Derived.Scope
set_option linter.all false
namespace Go.Proofs.YtkpgggfibljflaaGreatDoor
open Go Go.RowKit
open Rep (rep)
section
variable {P : Program} {ops : Array Oper} {X : List Nat} {Q : Exit → Act → World → Prop} {N : Nat} {F : Fr} {h : Heap} {e : Env} {pl : List Plc} {rw : List Row} {w : World} {m : TM} {t : Array Value} {dd : List Deferred} {o : Oper} {d : Nat} {K : Act → World → Prop}
def BoxS {α : Type} [Rep α] (h : Heap) (b : Nat) (x : α) : Prop := ∃ cs, rep h x cs ∧ ∀ j c, cs[j]? = some c → h b j = some c
theorem BoxS.mono {α : Type} [Rep α] {h h' : Heap} {b : Nat} {x : α} (hle : Heap.le h h') : BoxS h b x → BoxS h' b x := fun ⟨cs, h1, h2⟩ => ⟨cs, Rep.mono hle h1, fun j c hj => hle _ _ _ (h2 j c hj)⟩
theorem BoxS.of {α : Type} [Rep α] {b : Nat} {x : α} {cs : List SC} {vs : List Value} (h1 : rep h x vs) (hv : cs.map (SC.den e) = vs) (h2 : ∀ j c, cs[j]? = some c → h b (0 + j) = some (c.den e)) : BoxS h b x :=
  ⟨vs, h1, fun j c hj => by
    rw [← hv, List.getElem?_map] at hj
    cases hc : cs[j]? with
    | none => rw [hc] at hj; cases hj
    | some x => rw [hc] at hj; cases hj; rw [← h2 j x hc, Nat.zero_add]⟩
def sub {α : Type} (xs : List α) (lo : Int) : Option (List α) := if 0 ≤ lo ∧ lo ≤ xs.length then some (xs.drop lo.toNat) else none
theorem Cells.drop {α : Type} [Rep α] : ∀ {xs : List α} {vs : List Value}, Cells h xs vs → ∀ n, n ≤ xs.length → Cells h (xs.drop n) (vs.drop (n * Rep.sz α))
  | _, _, hc, 0, _ => by simpa using hc
  | [], vs, hc, n + 1, hn => by simp at hn
  | x :: r, vs, ⟨c1, c2, e, h1, h2⟩, n + 1, hn => by
    subst e
    have hl := Rep.len h1
    rw [List.drop_succ_cons, show (n + 1) * Rep.sz α = c1.length + n * Rep.sz α by rw [hl, Nat.add_mul]; omega, List.drop_append, List.drop_of_length_le (l := c1) (by omega), List.nil_append]
    rw [show c1.length + n * Rep.sz α - c1.length = n * Rep.sz α by omega]
    exact Cells.drop h2 n (by simpa using hn)
theorem RepS.isNil {α : Type} [Rep α] {a : Option Addr} {c : Nat} {xs : List α} (hr : RepS h a c xs) (hs : 0 < Rep.sz α) (ha : a.isNone = true) : xs = [] := by
  obtain ⟨vs, h1, h2, _⟩ := hr
  cases xs with
  | nil => rfl
  | cons x r =>
    have hl := h1.len
    have : 0 < vs.length := by rw [hl, List.length_cons, Nat.add_mul]; omega
    obtain ⟨ad, e1, _⟩ := h2 0 _ (List.getElem?_eq_getElem this)
    subst e1; cases ha
def subAt (sz : Nat) (a : Option Addr) (c l : Nat) : Option Addr := if c = l then a else a.map (·.add (l * sz))
theorem add_at (ad : Addr) (k : Nat) (h : ad.spot = none) : (ad.add k).block = ad.block ∧ (ad.add k).off = ad.off + k ∧ (ad.add k).spot = none := by
  cases ad
  simp only at h
  subst h
  unfold Addr.add
  split
  · rename_i h0; subst h0; simp
  · simp
theorem RepS.drop {α : Type} [Rep α] {a : Option Addr} {xs : List α} {sz c n : Nat} (hs : Rep.sz α = sz) (hr : RepS h a c xs) (hn : n ≤ xs.length) : RepS h (subAt sz a c n) (c - n) (xs.drop n) := by
  obtain ⟨vs, h1, h2, hc⟩ := hr
  refine ⟨_, h1.drop n hn, fun o x hx => ?_, by rw [List.length_drop]; omega⟩
  rw [List.getElem?_drop] at hx
  obtain ⟨ad, e1, e2, e3⟩ := h2 _ _ hx
  subst e1 hs
  unfold subAt
  split
  · rename_i hcn
    have hlt := (List.getElem?_eq_some_iff.1 hx).1
    rw [h1.len, show xs.length = n by omega] at hlt
    omega
  · obtain ⟨q1, q2, q3⟩ := add_at ad (n * Rep.sz α) e2
    exact ⟨_, rfl, q3, by rw [q1, q2, Nat.add_assoc]; exact e3⟩
def CellsAt (h : Heap) (b : Nat) (vs : List Value) : Prop := ∀ j v, vs[j]? = some v → h b j = some v
theorem CellsAt.mono {h h' : Heap} {b : Nat} {vs : List Value} (hle : Heap.le h h') : CellsAt h b vs → CellsAt h' b vs := fun H j v hj => hle _ _ _ (H j v hj)
theorem CellsAt.of {b : Nat} {cs : List SC} {vs : List Value} (hv : cs.map (SC.den e) = vs) (h2 : ∀ j c, cs[j]? = some c → h b (0 + j) = some (c.den e)) : CellsAt h b vs := fun j c hj => by
  rw [← hv, List.getElem?_map] at hj
  cases hc : cs[j]? with
  | none => rw [hc] at hj; cases hj
  | some x => rw [hc] at hj; cases hj; rw [← h2 j x hc, Nat.zero_add]
theorem Cells.take {α : Type} [Rep α] : ∀ {xs : List α} {vs : List Value}, Cells h xs vs → ∀ n, Cells h (xs.take n) (vs.take (n * Rep.sz α))
  | _, _, _, 0 => by simp; rfl
  | [], vs, hc, n + 1 => by rw [show vs = [] from hc]; simp; rfl
  | x :: r, vs, ⟨c1, c2, e, h1, h2⟩, n + 1 => by
    subst e
    have hl := Rep.len h1
    rw [List.take_succ_cons, show (n + 1) * Rep.sz α = c1.length + n * Rep.sz α by rw [hl, Nat.add_mul]; omega, List.take_append, List.take_of_length_le (l := c1) (by omega)]
    rw [show c1.length + n * Rep.sz α - c1.length = n * Rep.sz α by omega]
    exact ⟨c1, _, rfl, h1, Cells.take h2 n⟩
end
end Go.Proofs.YtkpgggfibljflaaGreatDoor
