/- The arguments of control's statements open. -/
import Derived.Test.YtokchpjijlebiaaPure
import Derived.Test.YtokchpjijlebiaaSymZ
import Derived.Test.YtokchpjijlebiaaRows
import Derived.ProofKit
set_option linter.all false
namespace Go.Proofs.Ytokchpjijlebiaa
open Go Go.RowKit Go.ChangeShapes Go.WideShapes Go.ChangeAt
open Rep (rep)
theorem tryOwn : ownKnob Try.prog.godebug = none := by kernel_rfl
theorem tryLaidOut : laidOutB Try.prog = true := by kernel_rfl
theorem opRg : Opens Rg Try.prog 24 := Opens.struct (fun x => (x.lo, x.hi)) (fun y => ⟨y.1, y.2⟩) (fun _ => rfl) (fun _ _ _ h => h) Try.underlying24 (by kernel_rfl)
  (OpensF.cons (Opens.int Try.underlying3) rfl (by kernel_rfl) (OpensF.one (Opens.int Try.underlying3) rfl (by kernel_rfl)))
theorem opBus : Opens Bus Try.prog 63 := Opens.struct (fun x => (x.stop, x.tm)) (fun y => ⟨y.1, y.2⟩) (fun _ => rfl) (fun _ _ _ h => h) Try.underlying63 (by kernel_rfl)
  (OpensF.cons (Opens.int Try.underlying3) rfl (by kernel_rfl) (OpensF.one opRg rfl (by kernel_rfl)))
theorem opSpare : Opens Spare Try.prog 61 := Opens.struct (fun x => (x.stop, x.tm)) (fun y => ⟨y.1, y.2⟩) (fun _ => rfl) (fun _ _ _ h => h) Try.underlying61 (by kernel_rfl)
  (OpensF.cons (Opens.int Try.underlying3) rfl (by kernel_rfl) (OpensF.one (Opens.int Try.underlying3) rfl (by kernel_rfl)))
theorem opRoute : Opens Route Try.prog 28 := Opens.struct (fun x => (x.legs, x.turn, x.buses, x.spares, x.unit, x.gap, x.fr, x.to_)) (fun y => ⟨y.1, y.2.1, y.2.2.1, y.2.2.2.1, y.2.2.2.2.1, y.2.2.2.2.2.1, y.2.2.2.2.2.2.1, y.2.2.2.2.2.2.2⟩) (fun _ => rfl) (fun _ _ _ h => h) Try.underlying28 (by kernel_rfl)
  (OpensF.cons (Opens.slice Try.underlying22 opRg (by kernel_rfl) (by decide)) rfl (by kernel_rfl)
  (OpensF.cons opRg rfl (by kernel_rfl)
  (OpensF.cons (Opens.slice Try.underlying25 opBus (by kernel_rfl) (by decide)) rfl (by kernel_rfl)
  (OpensF.cons (Opens.slice Try.underlying26 opSpare (by kernel_rfl) (by decide)) rfl (by kernel_rfl)
  (OpensF.cons (Opens.int Try.underlying3) rfl (by kernel_rfl)
  (OpensF.cons (Opens.int Try.underlying3) rfl (by kernel_rfl)
  (OpensF.cons (Opens.int Try.underlying3) rfl (by kernel_rfl)
  (OpensF.one (Opens.int Try.underlying3) rfl (by kernel_rfl)))))))))
theorem opActs : Opens Acts Try.prog 50 := Opens.struct (fun x => (x.holds, x.turns, x.spares)) (fun y => ⟨y.1, y.2.1, y.2.2⟩) (fun _ => rfl) (fun _ _ _ h => h) Try.underlying50 (by kernel_rfl)
  (OpensF.cons (Opens.slice Try.underlying31 (Opens.int Try.underlying3) (by kernel_rfl) (by decide)) rfl (by kernel_rfl)
  (OpensF.cons (Opens.slice Try.underlying31 (Opens.int Try.underlying3) (by kernel_rfl) (by decide)) rfl (by kernel_rfl)
  (OpensF.one (Opens.slice Try.underlying32 (Opens.bool Try.underlying4) (by kernel_rfl) (by decide)) rfl (by kernel_rfl))))
/-- a struct, as an argument -/
theorem open_arg {H : Type} {α : Type} [Rep α] {enc : TypeId × Value → H} {P : Program} {T : TypeId} {fs : Array Field} (ho : Opens α P T) (ht : P.underlying T = some (.struct fs)) {W : World} {base : Nat} {spare : Nat → Bool} {held : Bool} {r : Reach} {b0 : Nat} {v : Value} {d : DataW H} {ps : List MemPlace}
    (hval : Value.okWide P W r b0 T v) (hd : DataW.Trod enc P W base spare held T v d ps) : ∃ (y : α) (cs : List Value), v = .agg cs.toArray ∧ rep (allH W) y cs := by
  unfold Value.okWide at hval
  rw [ht] at hval
  obtain ⟨cs, rfl, _, _⟩ := hval
  obtain ⟨fuel, hf⟩ := hd
  obtain ⟨y, hy⟩ := ho.of _ _ _ _ _ _ _ _ hf
  exact ⟨y, cs.toList, by simp, by simpa [Value.cells] using hy⟩
end Go.Proofs.Ytokchpjijlebiaa
