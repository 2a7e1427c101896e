/- LaneNumbers, for every input. -/
import Derived.Test.YthcbemnflgjadaaknP0
import Derived.Test.YthcbemnflgjadaaknS9
import Derived.Test.YthcbemnflgjadaaRows
import Derived.ProofKit
import Derived.KernelRfl
import Derived.Test.YthcbemnflgjadaaknWM
import Derived.Test.YthcbemnflgjadaaknL0
set_option linter.all false
namespace Go.Proofs.Ythcbemnflgjadaa
open Go Go.RowKit Go.ChangeShapes Go.WideShapes Go.ChangeAt
open Rep (rep)
theorem RO : ownKnob Try.prog.godebug = none := by kernel_rfl
theorem He : laidOutB Try.prog = true := by kernel_rfl
theorem OY {n : Int} (h : (Lit.int .u8 n).wf = true) : 0 ≤ n ∧ n ≤ 255 := by
  simpa [Lit.wf, IntKind.min, IntKind.max, IntKind.bits, IntKind.signed] using h
theorem IC {n : Int} (h : (Lit.int .u16 n).wf = true) : 0 ≤ n ∧ n ≤ 65535 := by
  simpa [Lit.wf, IntKind.min, IntKind.max, IntKind.bits, IntKind.signed] using h
def RP {α : Type} (_ : α) : Prop := True
theorem C3.any {α : Type} [Rep α] {R : α → Prop} {P : Program} {T : TypeId} (h : C3 α R P T) : C3 α RP P T := ⟨fun enc w base spare held fuel cs x hx => by
  obtain ⟨y, hy, _⟩ := h.of enc w base spare held fuel cs x hx
  exact ⟨y, hy, trivial⟩⟩
theorem OZ : C3 Int RP Try.prog 3 := (C3.int Try.underlying3).any
theorem TA : C3 (List Int) RP Try.prog 22 := (C3.slice Try.underlying22 OZ (by kernel_rfl) (by decide)).any
theorem RQ : C3 (List (IK .u16)) (fun l => ∀ x ∈ l, (Lit.int .u16 x.n).wf = true) Try.prog 46 := C3.slice Try.underlying46 (C3.ik Try.underlying45) (by kernel_rfl) (by decide)
theorem TV : C3 Bb RP Try.prog 49 := C3.struct (fun x => (x.lo, x.hi, x.turn)) (fun y => ⟨y.1, y.2.1, y.2.2⟩) (fun _ _ => trivial) (fun _ => rfl) (fun _ _ _ h => h) Try.underlying49 (by kernel_rfl)
  (Fx.cons OZ rfl (by kernel_rfl) (Fx.cons OZ rfl (by kernel_rfl) (Fx.one OZ rfl (by kernel_rfl))))
theorem RR : C3 Ag RP Try.prog 25 := C3.struct (fun x => (x.room, x.buses, x.broken)) (fun y => ⟨y.1, y.2.1, y.2.2⟩) (fun _ _ => trivial) (fun _ => rfl) (fun _ _ _ h => h) Try.underlying25 (by kernel_rfl)
  (Fx.cons TA rfl (by kernel_rfl) (Fx.cons (C3.slice Try.underlying23 TV (by kernel_rfl) (by decide)).any rfl (by kernel_rfl) (Fx.one OZ rfl (by kernel_rfl))))
theorem Pa {H : Type} {α : Type} [Rep α] {R : α → Prop} {enc : TypeId × Value → H} {P : Program} {T : TypeId} {fs : Array Field} (ho : C3 α R P T) (ht : P.underlying T = some (.struct fs)) {W : World} {base : Nat} {spare : Nat → Bool} {held : Bool} {r : Reach} {b0 : Nat} {v : Value} {d : DataW H} {ps : List MemPlace}
    (hval : Value.okWide P W r b0 T v) (hd : DataW.Trod enc P W base spare held T v d ps) : ∃ (y : α) (cs : List Value), v = .agg cs.toArray ∧ rep (PW W) y cs ∧ R y := by
  unfold Value.okWide at hval
  rw [ht] at hval
  obtain ⟨cs, rfl, _, _⟩ := hval
  obtain ⟨fuel, hf⟩ := hd
  obtain ⟨y, hy, hR⟩ := ho.of _ _ _ _ _ _ _ _ hf
  exact ⟨y, cs.toList, by simp, by simpa [Value.cells] using hy, hR⟩
theorem QO {H : Type} {α : Type} [Rep α] {R : List α → Prop} {enc : TypeId × Value → H} {P : Program} {T E : TypeId} (ho : C3 (List α) R P T) (ht : P.underlying T = some (.slice E)) {W : World} {base : Nat} {spare : Nat → Bool} {held : Bool} {r : Reach} {b0 : Nat} {v : Value} {d : DataW H} {ps : List MemPlace}
    (hval : Value.okWide P W r b0 T v) (hd : DataW.Trod enc P W base spare held T v d ps) : ∃ (y : List α) (a : Option Addr) (c : Nat), v = .slice a y.length c ∧ A5 (PW W) a c y ∧ R y := by
  obtain ⟨a, n, c, rfl⟩ := okWide_slice ht hval
  obtain ⟨fuel, hf⟩ := hd
  obtain ⟨y, hy, hR⟩ := ho.of _ _ _ _ _ _ _ _ hf
  obtain ⟨a', c', h1, h2⟩ := hy
  simp only [Value.cells, List.cons.injEq, and_true] at h1
  cases h1
  exact ⟨y, a, c, rfl, h2, hR⟩
end Go.Proofs.Ythcbemnflgjadaa
namespace Go.Proofs.Ythcbemnflgjadaa
open Go Go.RowKit Go.ChangeShapes Go.WideShapes Go.ChangeAt
open Rep (rep)
set_option maxHeartbeats 800000 in
set_option maxRecDepth 100000 in
theorem KQ (os : Os) (started : os.Started) (H : Type) (enc : TypeId × Value → H) :
    ReturnsInHanded {} Try.checked os 5 .any (Rows.laneKnownSpec.pre6 enc Try.prog Try.f5 Rows.laneKnownRow.domain false) (Rows.laneKnownSpec.post enc Try.prog Try.f5 false true false false) := by
  refine returnsInHanded_of_change (C := Try.checked) RO started (by kernel_rfl) Try.func5
    (ChangeSpec.witness6 (enc := enc) (C := Try.checked) false ⟨#[], #[.agg #[.slice none 0 0, .slice none 0 0, .int .i64 0], .int .u8 0, .int .u8 0, .int .u16 0, .slice none 0 0], []⟩ 8 (by kernel_rfl) (by kernel_rfl) (by kernel_rfl) (by kernel_rfl)) ?_
  intro W base args ds gs before hval0 hW _ _
  have hval : ∀ (j : Nat) t v, Try.f5.params[j]? = some t → args[j]? = some v → Value.okWide Try.prog W .any base t v := hval0
  have hW' := hW
  obtain ⟨p, q, hA0, hV, rfl, _, _⟩ := hW
  have hA : DataW.TrodAll enc Try.prog W 0 (fun _ => true) true Try.f5.params.toList args.toList ds p := hA0
  rw [Try.params5] at hA hval
  obtain ⟨v0, vs0, d0, ds0, p0, q0, ha0, rfl, rfl, h0, hA⟩ := trodAll_cons hA
  obtain ⟨v1, vs1, d1, ds1, p1, q1, rfl, rfl, rfl, h1, hA⟩ := trodAll_cons hA
  obtain ⟨v2, vs2, d2, ds2, p2, q2, rfl, rfl, rfl, h2, hA⟩ := trodAll_cons hA
  obtain ⟨v3, vs3, d3, ds3, p3, q3, rfl, rfl, rfl, h3, hA⟩ := trodAll_cons hA
  obtain ⟨v4, vs4, d4, ds4, p4, q4, rfl, rfl, rfl, h4, hA⟩ := trodAll_cons hA
  obtain ⟨rfl, rfl, rfl⟩ := trodAll_nil hA
  obtain rfl : args = #[v0, v1, v2, v3, v4] := by cases args; simp_all
  obtain ⟨rfl, rfl⟩ := trodVars_none hV
  obtain ⟨y, cy, rfl, hy, ry⟩ := Pa RR Try.underlying25 (hval 0 25 v0 rfl rfl) h0
  obtain ⟨k1, rfl, rfl, rfl, wk1⟩ := open_int Try.underlying5 (hval 1 5 v1 rfl rfl) h1
  obtain ⟨k2, rfl, rfl, rfl, wk2⟩ := open_int Try.underlying5 (hval 2 5 v2 rfl rfl) h2
  obtain ⟨k3, rfl, rfl, rfl, wk3⟩ := open_int Try.underlying45 (hval 3 45 v3 rfl rfl) h3
  obtain ⟨words, awords, cwords, rfl, hwords, rwords⟩ := QO RQ Try.underlying46 (hval 4 46 v4 rfl rfl) h4
  clear hA0 hval0
  simp only [List.append_nil] at hW'
  have hlt : ∀ z ∈ p0 ++ p4, z.block < W.heap.size := fun z hz => hW'.lt z (by simpa using hz)
  have bk1 := OY wk1
  have bk2 := OY wk2
  have bk3 := IC wk3
  refine (Lq 700 (PX W) y hy ⟨k1⟩ ⟨k2⟩ ⟨k3⟩ words hwords (N1 y ⟨k1⟩ ⟨k2⟩ ⟨k3⟩ bk1.1 bk2 bk3 words (fun x hx => IC (rwords x hx)))).mono fun e W' ⟨v, h', he, hb, _, _, hv⟩ => ?_
  subst he hv
  have harg0 : DataW.Trod enc Try.prog W' 0 (fun b => decide (b < W.heap.size)) true 25 (.agg cy.toArray) d0 p0 :=
    Below.trod He (by kernel_rfl) (of_decide_eq_true (by kernel_rfl)) h0 hb (fun z hz => hlt z (by simp [hz]))
  have harg4 : DataW.Trod enc Try.prog W' 0 (fun b => decide (b < W.heap.size)) true 46 (.slice awords words.length cwords) d4 p4 :=
    Below.trod He (by kernel_rfl) (of_decide_eq_true (by kernel_rfl)) h4 hb (fun z hz => hlt z (by simp [hz]))
  refine ⟨_, rfl, _, _, _, [], p0 ++ p4, [], hW', ?_, ?_, rfl, hb.frame _, fun h => by cases h⟩
  · exact trodAll_mk1 (shut_bool Try.underlying4 _)
  · exact ⟨p0, p4, harg0, ⟨[], p4, shut_int Try.underlying5 wk1, ⟨[], p4, shut_int Try.underlying5 wk2, ⟨[], p4, shut_int Try.underlying45 wk3, ⟨p4, [], harg4, rfl, by simp⟩, by simp⟩, by simp⟩, by simp⟩, by simp⟩
theorem laneKnown_holds : Rows.LaneKnownSaid :=
  OpenClaim.holds_of_wide 5 Try.f5 rfl rfl rfl rfl rfl rfl rfl ⟨rfl, rfl, rfl, rfl, rfl⟩ rfl rfl rfl rfl rfl (by kernel_rfl) Try.func5 (by kernel_rfl)
    (of_decide_eq_true (by kernel_rfl)) (by unfold Func.isWrapper; rw [if_neg (of_decide_eq_false (by kernel_rfl))]; exact ⟨rfl, rfl⟩)
    (fun os started H enc _ => KQ os started H enc)
end Go.Proofs.Ythcbemnflgjadaa
namespace Go.Proofs.Ythcbemnflgjadaa
open Go Go.RowKit Go.ChangeShapes Go.WideShapes Go.ChangeAt
open Rep (rep)
set_option maxHeartbeats 800000 in
set_option maxRecDepth 100000 in
theorem Ju (os : Os) (started : os.Started) (H : Type) (enc : TypeId × Value → H) :
    ReturnsInHanded {} Try.checked os 8 .any (Rows.laneNumbersSpec.pre6 enc Try.prog Try.f8 Rows.laneNumbersRow.domain false) (Rows.laneNumbersSpec.post enc Try.prog Try.f8 false true false false) := by
  refine returnsInHanded_of_change (C := Try.checked) RO started (by kernel_rfl) Try.func8
    (ChangeSpec.witness6 (enc := enc) (C := Try.checked) false ⟨#[], #[.agg #[.slice none 0 0, .slice none 0 0, .int .i64 0], .slice none 0 0, .int .u16 0], []⟩ 8 (by kernel_rfl) (by kernel_rfl) (by kernel_rfl) (by kernel_rfl)) ?_
  intro W base args ds gs before hval0 hW _ _
  have hval : ∀ (j : Nat) t v, Try.f8.params[j]? = some t → args[j]? = some v → Value.okWide Try.prog W .any base t v := hval0
  have hW' := hW
  obtain ⟨p, q, hA0, hV, rfl, _, _⟩ := hW
  have hA : DataW.TrodAll enc Try.prog W 0 (fun _ => true) true Try.f8.params.toList args.toList ds p := hA0
  rw [Try.params8] at hA hval
  obtain ⟨v0, vs0, d0, ds0, p0, q0, ha0, rfl, rfl, h0, hA⟩ := trodAll_cons hA
  obtain ⟨v1, vs1, d1, ds1, p1, q1, rfl, rfl, rfl, h1, hA⟩ := trodAll_cons hA
  obtain ⟨v2, vs2, d2, ds2, p2, q2, rfl, rfl, rfl, h2, hA⟩ := trodAll_cons hA
  obtain ⟨rfl, rfl, rfl⟩ := trodAll_nil hA
  obtain rfl : args = #[v0, v1, v2] := by cases args; simp_all
  obtain ⟨rfl, rfl⟩ := trodVars_none hV
  obtain ⟨y, cy, rfl, hy, ry⟩ := Pa RR Try.underlying25 (hval 0 25 v0 rfl rfl) h0
  obtain ⟨words, awords, cwords, rfl, hwords, rwords⟩ := QO RQ Try.underlying46 (hval 1 46 v1 rfl rfl) h1
  obtain ⟨k1, rfl, rfl, rfl, wk1⟩ := open_int Try.underlying45 (hval 2 45 v2 rfl rfl) h2
  clear hA0 hval0
  simp only [List.append_nil] at hW'
  have hlt : ∀ z ∈ p0 ++ p1, z.block < W.heap.size := fun z hz => hW'.lt z (by simpa using hz)
  have bk1 := IC wk1
  refine (JJ 700 (PX W) y hy words hwords ⟨k1⟩ (Ma y words (fun x hx => IC (rwords x hx)) ⟨k1⟩ bk1)).mono fun e W' ⟨v, h', he, hb, _, _, hv⟩ => ?_
  subst he hv
  have harg0 : DataW.Trod enc Try.prog W' 0 (fun b => decide (b < W.heap.size)) true 25 (.agg cy.toArray) d0 p0 :=
    Below.trod He (by kernel_rfl) (of_decide_eq_true (by kernel_rfl)) h0 hb (fun z hz => hlt z (by simp [hz]))
  have harg1 : DataW.Trod enc Try.prog W' 0 (fun b => decide (b < W.heap.size)) true 46 (.slice awords words.length cwords) d1 p1 :=
    Below.trod He (by kernel_rfl) (of_decide_eq_true (by kernel_rfl)) h1 hb (fun z hz => hlt z (by simp [hz]))
  refine ⟨_, rfl, _, _, _, [], p0 ++ p1, [], hW', ?_, ?_, rfl, hb.frame _, fun h => by cases h⟩
  · exact trodAll_mk1 (shut_bool Try.underlying4 _)
  · exact ⟨p0, p1, harg0, ⟨p1, [], harg1, ⟨[], [], shut_int Try.underlying45 wk1, rfl, by simp⟩, by simp⟩, by simp⟩
theorem laneNumbers_holds : Rows.LaneNumbersSaid :=
  OpenClaim.holds_of_wide 8 Try.f8 rfl rfl rfl rfl rfl rfl rfl ⟨rfl, rfl, rfl, rfl, rfl⟩ rfl rfl rfl rfl rfl (by kernel_rfl) Try.func8 (by kernel_rfl)
    (of_decide_eq_true (by kernel_rfl)) (by unfold Func.isWrapper; rw [if_neg (of_decide_eq_false (by kernel_rfl))]; exact ⟨rfl, rfl⟩)
    (fun os started H enc _ => Ju os started H enc)
end Go.Proofs.Ythcbemnflgjadaa
