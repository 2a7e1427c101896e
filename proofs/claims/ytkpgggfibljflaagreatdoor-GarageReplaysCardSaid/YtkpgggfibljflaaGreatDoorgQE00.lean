/- The theorem. -/
import Derived.Test.YtkpgggfibljflaaGreatDoorgQS10
import Derived.Deep.Slices
set_option linter.all false
namespace Go.Proofs.YtkpgggfibljflaaGreatDoor
open Go Go.RowKit Go.Deep
open Rep (rep)
def Rk (w : World) : Ad := fun b o => K0 w b o
theorem ZP (w : World) : Ack (Rk w) w := fun b o v h => by
 refine ⟨?_, h⟩
 rcases Nat.lt_or_ge b w.heap.size with hb | hb
 · exact hb
 · have hn : w.heap[b]? = none := Array.getElem?_eq_none hb
   simp [Rk, K0, World.cell?, hn] at h
structure EW (α : Type) [Rep α] (R : α → Prop) (P : Program) (T : TypeId) : Prop where
 of : ∀ {H : Type} (enc : TypeId × Value → H) (w : World) (base : Nat) (spare : Nat → Bool) (held : Bool) (fuel : Nat) (cs : List Value) (x : DataW H × List MemPlace), DataW.trod enc P w base spare held fuel T cs = some x → ∃ y : α, rep (Rk w) y cs ∧ R y
section
variable {P : Program} {T E : TypeId}
theorem EW.int (ht : P.underlying T = some (.int .i64)) : EW Int (fun n => (Lit.int .i64 n).wf = true) P T := ⟨fun enc w base spare held fuel cs x h => by
 obtain ⟨n, rfl, _, hw⟩ := DataW.trod_int ht h
 exact ⟨n, rfl, hw⟩⟩
theorem EW.ik {k : IntKind} (ht : P.underlying T = some (.int k)) : EW (IK k) (fun n => (Lit.int k n.n).wf = true) P T := ⟨fun enc w base spare held fuel cs x h => by
 obtain ⟨n, rfl, _, hw⟩ := DataW.trod_int ht h
 exact ⟨⟨n⟩, rfl, hw⟩⟩
theorem EW.bool (ht : P.underlying T = some .bool) : EW Bool (fun _ => True) P T := ⟨fun enc w base spare held fuel cs x h => by
 obtain ⟨b, rfl, _⟩ := DataW.trod_bool ht h
 exact ⟨b, rfl, trivial⟩⟩
theorem EW.string (ht : P.underlying T = some .string) : EW ByteArray (fun _ => True) P T := ⟨fun enc w base spare held fuel cs x h => by
 obtain ⟨s, rfl, _, _⟩ := DataW.trod_string ht h
 exact ⟨s, rfl, trivial⟩⟩
theorem ZQ (a : Addr) (x y : Nat) : (a.add x).add y = a.add (x + y) := by
 unfold Addr.add
 by_cases hx : x = 0
 · subst hx; simp
 · by_cases hy : y = 0
   · subst hy; simp [hx]
   · have : x + y ≠ 0 := by omega
     simp [hx, hy, this, Nat.add_assoc]
theorem Y1 {w : World} {a : Addr} {v : Value} (h : w.cell? (a.add 0) = some v) : a.spot = none := by
 unfold World.cell? at h
 split at h
 · split at h
   · cases h
   · rename_i hn
     cases hs : a.spot with
     | none => rfl
     | some k => exact absurd (by simp [Addr.add, hs]) hn
 · cases h
theorem Y2 {w : World} {a : Addr} {i : Nat} {v : Value} (hs : a.spot = none) (h : w.cell? (a.add i) = some v) (hv : v.oneCell' = true) : Rk w a.block (a.off + i) = some v := by
 have ha : a.add i = ⟨a.block, a.off + i, none⟩ := by
  cases a with
  | mk b o s =>
   simp only at hs
   subst hs
   unfold Addr.add
   split
   · simp_all
   · rfl
 rw [ha] at h
 exact G6 h (Dt hv)
theorem EW.slice {α : Type} [Rep α] {R : α → Prop} (ht : P.underlying T = some (.slice E)) (hE : EW α R P E) (hs : P.cellsOf E = Rep.sz α) (hp : 0 < Rep.sz α) : EW (List α) (fun l => ∀ x ∈ l, R x) P T := ⟨fun enc w base spare held fuel cs x h => by
 rcases open_slice ht h with ⟨rfl, _⟩ | ⟨a, len, cap, m, n, D, Pl, rfl, _, hl, _, hm, _, hi⟩
 · exact ⟨[], ⟨none, 0, rfl, F0.nil⟩, fun x hx => by cases hx⟩
 · have hlm : len ≤ m := by rw [hm]; split <;> omega
   have : ∀ k, k ≤ len → ∃ (xs : List α) (vs : List Value), xs.length = k ∧ vs.length = k * Rep.sz α ∧ Ar (Rk w) xs vs ∧ (∀ x ∈ xs, R x) ∧ ∀ o v, vs[o]? = some v → w.cell? (a.add o) = some v ∧ v.oneCell' = true := by
    intro k
    induction k with
    | zero => exact fun _ => ⟨[], [], rfl, by simp, rfl, fun x hx => by (cases hx), fun o v hv => by simp at hv⟩
    | succ k ih =>
     intro hk
     obtain ⟨xs, vs, h1, h2, h3, hR, h4⟩ := ih (by omega)
     obtain ⟨cs', h5, h6⟩ := hi k (by omega)
     obtain ⟨y, hy, hRy⟩ := hE.of _ _ _ _ _ _ _ _ h6
     obtain ⟨_, h7, h8⟩ := World.cells?_some h5
     refine ⟨xs ++ [y], vs ++ cs', by simp [h1], by rw [List.length_append, h2, Rep.len hy, Nat.add_mul]; simp, Ar.append h3 ⟨cs', [], by simp, hy, rfl⟩, fun x hx => by
      rcases List.mem_append.1 hx with hx | hx
      · exact hR x hx
      · rw [List.mem_singleton] at hx; rw [hx]; exact hRy, fun o v hv => ?_⟩
     rcases Nat.lt_or_ge o vs.length with ho | ho
     · rw [List.getElem?_append_left ho] at hv
       exact h4 o v hv
     · rw [List.getElem?_append_right ho] at hv
       have hlt : o - vs.length < P.cellsOf E := by
        rw [← h7]
        rcases Nat.lt_or_ge (o - vs.length) cs'.length with h9 | h9
        · exact h9
        · rw [List.getElem?_eq_none h9] at hv; cases hv
       have := h8 _ hlt
       rw [hv] at this
       rw [ZQ, hs, ← h2, show vs.length + (o - vs.length) = o by omega] at this
       exact ⟨this, Rep.one hy _ (List.mem_of_getElem? hv)⟩
   obtain ⟨xs, vs, h1, h2, h3, hR, h4⟩ := this len (Nat.le_refl _)
   subst h1
   refine ⟨xs, ⟨some a, cap, rfl, vs, h3, fun o v hv => ?_, hl⟩, hR⟩
   have hlt : 0 < vs.length := by
    rcases Nat.lt_or_ge o vs.length with h9 | h9
    · omega
    · rw [List.getElem?_eq_none h9] at hv; cases hv
   have hsp := Y1 (h4 0 _ (List.getElem?_eq_getElem hlt)).1
   obtain ⟨q1, q2⟩ := h4 o v hv
   exact ⟨a, rfl, hsp, Y2 hsp q1 q2⟩⟩
structure MN (α : Type) [Rep α] (R : α → Prop) (P : Program) (fs : List Field) (off : Nat) : Prop where
 of : ∀ {H : Type} (enc : TypeId × Value → H) (w : World) (base : Nat) (spare : Nat → Bool) (held : Bool) (n : Nat) (cs : List Value), cs.length = off + Rep.sz α →
 (∀ (i : Nat) (f : Field), fs[i]? = some f → ∃ x, DataW.trod enc P w base spare held n f.type ((cs.drop f.offset).take (P.cellsOf f.type)) = some x) → ∃ y : α, rep (Rk w) y (cs.drop off) ∧ R y
theorem MN.one {α : Type} [Rep α] {R : α → Prop} {f : Field} {off : Nat} (h : EW α R P f.type) (ho : f.offset = off) (hc : P.cellsOf f.type = Rep.sz α) : MN α R P [f] off := ⟨fun enc w base spare held n cs hl hx => by
 obtain ⟨x, hx⟩ := hx 0 f rfl
 rw [ho, hc, List.take_of_length_le (by rw [List.length_drop]; omega)] at hx
 exact h.of _ _ _ _ _ _ _ _ hx⟩
theorem MN.cons {α β : Type} [Rep α] [Rep β] {R : α → Prop} {S : β → Prop} {f : Field} {fs : List Field} {off : Nat} (h : EW α R P f.type) (ho : f.offset = off) (hc : P.cellsOf f.type = Rep.sz α) (hr : MN β S P fs (off + Rep.sz α)) : MN (α × β) (fun y => R y.1 ∧ S y.2) P (f :: fs) off := ⟨fun enc w base spare held n cs hl hx => by
 have hsz : Rep.sz (α × β) = Rep.sz α + Rep.sz β := rfl
 obtain ⟨y2, h2, hS⟩ := hr.of enc w base spare held n cs (by omega) (fun i g hg => hx (i + 1) g (by simpa using hg))
 obtain ⟨x, hx⟩ := hx 0 f rfl
 rw [ho, hc] at hx
 obtain ⟨y1, h1, hR⟩ := h.of _ _ _ _ _ _ _ _ hx
 refine ⟨(y1, y2), ⟨_, _, ?_, h1, h2⟩, hR, hS⟩
 rw [← List.drop_drop, List.take_append_drop]⟩
theorem EW.struct {α β : Type} [Rep α] [Rep β] {R : α → Prop} {S : β → Prop} {l : List Field} (f : α → β) (g : β → α) (hR : ∀ y, S y → R (g y)) (hfg : ∀ y, f (g y) = y) (hv : ∀ (h : Ad) (x : α) (cs : List Value), rep h (f x) cs → rep h x cs) (ht : P.underlying T = some (.struct l.toArray)) (hc : P.cellsOf T = Rep.sz β) (hF : MN β S P l 0) : EW α R P T := ⟨fun enc w base spare held fuel cs x h => by
 obtain ⟨xs, n, _, _, h1, h2, h3⟩ := DataW.trod_struct ht h
 obtain ⟨y, hy, hS⟩ := hF.of enc w base spare held n cs (by omega) (fun i f hf => by
  have hi : i < l.length := by
   rcases Nat.lt_or_ge i l.length with h' | h'
   · exact h'
   · rw [List.getElem?_eq_none (by simpa using h')] at hf; cases hf
  have hf' : l.toArray[i]? = some f := by simpa using hf
  exact ⟨xs[i]'(by simp at h2; omega), by rw [h3 i f hf', List.getElem?_eq_getElem]⟩)
 rw [List.drop_zero] at hy
 exact ⟨g y, hv _ _ _ (by rw [hfg]; exact hy), hR y hS⟩⟩
end
end Go.Proofs.YtkpgggfibljflaaGreatDoor
