/- LaneAlone, for every input. -/
import Derived.Test.YthcbemnflgjadaaAmP0
import Derived.Test.YthcbemnflgjadaaAmS9
import Derived.Test.YthcbemnflgjadaaRows
import Derived.ProofKit
import Derived.KernelRfl
import Derived.Test.YthcbemnflgjadaaAmWK
import Derived.Test.YthcbemnflgjadaaAmL0
set_option linter.all false
namespace Go.Proofs.Ythcbemnflgjadaa
open Go Go.RowKit Go.ChangeShapes Go.WideShapes Go.ChangeAt
open Rep (rep)
theorem RN : ownKnob Try.prog.godebug = none := by kernel_rfl
theorem KY : laidOutB Try.prog = true := by kernel_rfl
theorem PM {n : Int} (h : (Lit.int .u16 n).wf = true) : 0 ≤ n ∧ n ≤ 65535 := by
  simpa [Lit.wf, IntKind.min, IntKind.max, IntKind.bits, IntKind.signed] using h
def Qp {α : Type} (_ : α) : Prop := True
theorem Cg.any {α : Type} [Rep α] {R : α → Prop} {P : Program} {T : TypeId} (h : Cg α R P T) : Cg α Qp P T := ⟨fun enc w base spare held fuel cs x hx => by
  obtain ⟨y, hy, _⟩ := h.of enc w base spare held fuel cs x hx
  exact ⟨y, hy, trivial⟩⟩
theorem NG : Cg Int Qp Try.prog 3 := (Cg.int Try.underlying3).any
theorem RO : Cg (List Int) Qp Try.prog 22 := (Cg.slice Try.underlying22 NG (by kernel_rfl) (by decide)).any
theorem RP : Cg (List (IK .u16)) (fun l => ∀ x ∈ l, (Lit.int .u16 x.n).wf = true) Try.prog 46 := Cg.slice Try.underlying46 (Cg.ik Try.underlying45) (by kernel_rfl) (by decide)
theorem Sg : Cg AX Qp Try.prog 49 := Cg.struct (fun x => (x.lo, x.hi, x.turn)) (fun y => ⟨y.1, y.2.1, y.2.2⟩) (fun _ _ => trivial) (fun _ => rfl) (fun _ _ _ h => h) Try.underlying49 (by kernel_rfl)
  (EO.cons NG rfl (by kernel_rfl) (EO.cons NG rfl (by kernel_rfl) (EO.one NG rfl (by kernel_rfl))))
theorem RQ : Cg Ak Qp Try.prog 25 := Cg.struct (fun x => (x.room, x.buses, x.broken)) (fun y => ⟨y.1, y.2.1, y.2.2⟩) (fun _ _ => trivial) (fun _ => rfl) (fun _ _ _ h => h) Try.underlying25 (by kernel_rfl)
  (EO.cons RO rfl (by kernel_rfl) (EO.cons (Cg.slice Try.underlying23 Sg (by kernel_rfl) (by decide)).any rfl (by kernel_rfl) (EO.one NG rfl (by kernel_rfl))))
theorem Qq {H : Type} {α : Type} [Rep α] {R : α → Prop} {enc : TypeId × Value → H} {P : Program} {T : TypeId} {fs : Array Field} (ho : Cg α R P T) (ht : P.underlying T = some (.struct fs)) {W : World} {base : Nat} {spare : Nat → Bool} {held : Bool} {r : Reach} {b0 : Nat} {v : Value} {d : DataW H} {ps : List MemPlace}
    (hval : Value.okWide P W r b0 T v) (hd : DataW.Trod enc P W base spare held T v d ps) : ∃ (y : α) (cs : List Value), v = .agg cs.toArray ∧ rep (O4 W) y cs ∧ R y := by
  unfold Value.okWide at hval
  rw [ht] at hval
  obtain ⟨cs, rfl, _, _⟩ := hval
  obtain ⟨fuel, hf⟩ := hd
  obtain ⟨y, hy, hR⟩ := ho.of _ _ _ _ _ _ _ _ hf
  exact ⟨y, cs.toList, by simp, by simpa [Value.cells] using hy, hR⟩
theorem Re {H : Type} {α : Type} [Rep α] {R : List α → Prop} {enc : TypeId × Value → H} {P : Program} {T E : TypeId} (ho : Cg (List α) R P T) (ht : P.underlying T = some (.slice E)) {W : World} {base : Nat} {spare : Nat → Bool} {held : Bool} {r : Reach} {b0 : Nat} {v : Value} {d : DataW H} {ps : List MemPlace}
    (hval : Value.okWide P W r b0 T v) (hd : DataW.Trod enc P W base spare held T v d ps) : ∃ (y : List α) (a : Option Addr) (c : Nat), v = .slice a y.length c ∧ A1 (O4 W) a c y ∧ R y := by
  obtain ⟨a, n, c, rfl⟩ := okWide_slice ht hval
  obtain ⟨fuel, hf⟩ := hd
  obtain ⟨y, hy, hR⟩ := ho.of _ _ _ _ _ _ _ _ hf
  obtain ⟨a', c', h1, h2⟩ := hy
  simp only [Value.cells, List.cons.injEq, and_true] at h1
  cases h1
  exact ⟨y, a, c, rfl, h2, hR⟩
end Go.Proofs.Ythcbemnflgjadaa
namespace Go.Proofs.Ythcbemnflgjadaa
open Go Go.RowKit Go.ChangeShapes Go.WideShapes Go.ChangeAt
open Rep (rep)
set_option maxHeartbeats 800000 in
set_option maxRecDepth 100000 in
theorem J7 (os : Os) (started : os.Started) (H : Type) (enc : TypeId × Value → H) :
    ReturnsInHanded {} Try.checked os 7 .any (Rows.laneAloneSpec.pre6 enc Try.prog Try.f7 Rows.laneAloneRow.domain false) (Rows.laneAloneSpec.post enc Try.prog Try.f7 false true false false) := by
  refine returnsInHanded_of_change (C := Try.checked) RN started (by kernel_rfl) Try.func7
    (ChangeSpec.witness6 (enc := enc) (C := Try.checked) false ⟨#[], #[.agg #[.slice none 0 0, .slice none 0 0, .int .i64 0], .slice none 0 0], []⟩ 8 (by kernel_rfl) (by kernel_rfl) (by kernel_rfl) (by kernel_rfl)) ?_
  intro W base args ds gs before hval0 hW _ _
  have hval : ∀ (j : Nat) t v, Try.f7.params[j]? = some t → args[j]? = some v → Value.okWide Try.prog W .any base t v := hval0
  have hW' := hW
  obtain ⟨p, q, hA0, hV, rfl, _, _⟩ := hW
  have hA : DataW.TrodAll enc Try.prog W 0 (fun _ => true) true Try.f7.params.toList args.toList ds p := hA0
  rw [Try.params7] at hA hval
  obtain ⟨v0, vs0, d0, ds0, p0, q0, ha0, rfl, rfl, h0, hA⟩ := trodAll_cons hA
  obtain ⟨v1, vs1, d1, ds1, p1, q1, rfl, rfl, rfl, h1, hA⟩ := trodAll_cons hA
  obtain ⟨rfl, rfl, rfl⟩ := trodAll_nil hA
  obtain rfl : args = #[v0, v1] := by cases args; simp_all
  obtain ⟨rfl, rfl⟩ := trodVars_none hV
  obtain ⟨y, cy, rfl, hy, ry⟩ := Qq RQ Try.underlying25 (hval 0 25 v0 rfl rfl) h0
  obtain ⟨words, awords, cwords, rfl, hwords, rwords⟩ := Re RP Try.underlying46 (hval 1 46 v1 rfl rfl) h1
  clear hA0 hval0
  simp only [List.append_nil] at hW'
  have hlt : ∀ z ∈ p0 ++ p1, z.block < W.heap.size := fun z hz => hW'.lt z (by simpa using hz)
  refine (JU 700 (QT W) y hy words hwords (Mt y words (fun x hx => PM (rwords x hx)))).mono fun e W' ⟨v, h', he, hb, _, _, hv⟩ => ?_
  subst he hv
  have harg0 : DataW.Trod enc Try.prog W' 0 (fun b => decide (b < W.heap.size)) true 25 (.agg cy.toArray) d0 p0 :=
    Below.trod KY (by kernel_rfl) (of_decide_eq_true (by kernel_rfl)) h0 hb (fun z hz => hlt z (by simp [hz]))
  have harg1 : DataW.Trod enc Try.prog W' 0 (fun b => decide (b < W.heap.size)) true 46 (.slice awords words.length cwords) d1 p1 :=
    Below.trod KY (by kernel_rfl) (of_decide_eq_true (by kernel_rfl)) h1 hb (fun z hz => hlt z (by simp [hz]))
  refine ⟨_, rfl, _, _, _, [], p0 ++ p1, [], hW', ?_, ?_, rfl, hb.frame _, fun h => by cases h⟩
  · exact trodAll_mk1 (shut_bool Try.underlying4 _)
  · exact ⟨p0, p1, harg0, ⟨p1, [], harg1, rfl, by simp⟩, by simp⟩
theorem laneAlone_holds : Rows.LaneAloneSaid :=
  OpenClaim.holds_of_wide 7 Try.f7 rfl rfl rfl rfl rfl rfl rfl ⟨rfl, rfl, rfl, rfl, rfl⟩ rfl rfl rfl rfl rfl (by kernel_rfl) Try.func7 (by kernel_rfl)
    (of_decide_eq_true (by kernel_rfl)) (by unfold Func.isWrapper; rw [if_neg (of_decide_eq_false (by kernel_rfl))]; exact ⟨rfl, rfl⟩)
    (fun os started H enc _ => J7 os started H enc)
end Go.Proofs.Ythcbemnflgjadaa
