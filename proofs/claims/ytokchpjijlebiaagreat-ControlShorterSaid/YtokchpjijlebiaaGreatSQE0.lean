/- ControlShorter, for every input. -/
import Derived.Test.YtokchpjijlebiaaGreatSQP0
import Derived.Test.YtokchpjijlebiaaGreatSQS9
import Derived.Test.YtokchpjijlebiaaGreatRows
import Derived.ProofKit
import Derived.KernelRfl
import Derived.Test.YtokchpjijlebiaaGreatSQWQ1
import Derived.Test.YtokchpjijlebiaaGreatSQL0
set_option linter.all false
namespace Go.Proofs.YtokchpjijlebiaaGreat
open Go Go.RowKit Go.ChangeShapes Go.WideShapes Go.ChangeAt
open Rep (rep)
theorem Si : ownKnob Tryz.prog.godebug = none := by kernel_rfl
theorem IX : laidOutB Tryz.prog = true := by kernel_rfl
theorem Oc {n : Int} (h : (Lit.int .u8 n).wf = true) : 0 ≤ n ∧ n ≤ 255 := by
  simpa [Lit.wf, IntKind.min, IntKind.max, IntKind.bits, IntKind.signed] using h
theorem Qp {n : Int} (h : (Lit.int .u16 n).wf = true) : 0 ≤ n ∧ n ≤ 65535 := by
  simpa [Lit.wf, IntKind.min, IntKind.max, IntKind.bits, IntKind.signed] using h
def Od {α : Type} (_ : α) : Prop := True
theorem BF.any {α : Type} [Rep α] {R : α → Prop} {P : Program} {T : TypeId} (h : BF α R P T) : BF α Od P T := ⟨fun enc w base spare held fuel cs x hx => by
  obtain ⟨y, hy, _⟩ := h.of enc w base spare held fuel cs x hx
  exact ⟨y, hy, trivial⟩⟩
theorem ID : BF Int Od Tryz.prog 3 := (BF.int Tryz.underlying3).any
theorem QB : BF (List Int) Od Tryz.prog 29 := (BF.slice Tryz.underlying29 ID (by kernel_rfl) (by decide)).any
theorem Sj : BF (List (IK .u16)) (fun l => ∀ x ∈ l, (Lit.int .u16 x.n).wf = true) Tryz.prog 33 := BF.slice Tryz.underlying33 (BF.ik Tryz.underlying128) (by kernel_rfl) (by decide)
theorem Sk : BF Rg Od Tryz.prog 24 := BF.struct (fun x => (x.lo, x.hi)) (fun y => ⟨y.1, y.2⟩) (fun _ _ => trivial) (fun _ => rfl) (fun _ _ _ h => h) Tryz.underlying24 (by kernel_rfl)
  (Cy.cons ID rfl (by kernel_rfl) (Cy.one ID rfl (by kernel_rfl)))
theorem S9 : BF Cu Od Tryz.prog 83 := BF.struct (fun x => (x.stop, x.tm)) (fun y => ⟨y.1, y.2⟩) (fun _ _ => trivial) (fun _ => rfl) (fun _ _ _ h => h) Tryz.underlying83 (by kernel_rfl)
  (Cy.cons ID rfl (by kernel_rfl) (Cy.one Sk rfl (by kernel_rfl)))
theorem RC : BF A6 Od Tryz.prog 89 := BF.struct (fun x => (x.stop, x.tm)) (fun y => ⟨y.1, y.2⟩) (fun _ _ => trivial) (fun _ => rfl) (fun _ _ _ h => h) Tryz.underlying89 (by kernel_rfl)
  (Cy.cons ID rfl (by kernel_rfl) (Cy.one ID rfl (by kernel_rfl)))
theorem RD : BF Af Od Tryz.prog 28 := BF.struct (fun x => (x.legs, x.turn, x.buses, x.spares, x.unit, x.gap, x.fr, x.to_)) (fun y => ⟨y.1, y.2.1, y.2.2.1, y.2.2.2.1, y.2.2.2.2.1, y.2.2.2.2.2.1, y.2.2.2.2.2.2.1, y.2.2.2.2.2.2.2⟩) (fun _ _ => trivial) (fun _ => rfl) (fun _ _ _ h => h) Tryz.underlying28 (by kernel_rfl)
  (Cy.cons (BF.slice Tryz.underlying22 Sk (by kernel_rfl) (by decide)).any rfl (by kernel_rfl)
  (Cy.cons Sk rfl (by kernel_rfl)
  (Cy.cons (BF.slice Tryz.underlying25 S9 (by kernel_rfl) (by decide)).any rfl (by kernel_rfl)
  (Cy.cons (BF.slice Tryz.underlying26 RC (by kernel_rfl) (by decide)).any rfl (by kernel_rfl)
  (Cy.cons ID rfl (by kernel_rfl) (Cy.cons ID rfl (by kernel_rfl) (Cy.cons ID rfl (by kernel_rfl) (Cy.one ID rfl (by kernel_rfl)))))))))
theorem Sl : BF Av Od Tryz.prog 32 := BF.struct (fun x => (x.holds, x.turns, x.spares)) (fun y => ⟨y.1, y.2.1, y.2.2⟩) (fun _ _ => trivial) (fun _ => rfl) (fun _ _ _ h => h) Tryz.underlying32 (by kernel_rfl)
  (Cy.cons QB rfl (by kernel_rfl) (Cy.cons QB rfl (by kernel_rfl) (Cy.one (BF.slice Tryz.underlying30 (BF.bool Tryz.underlying4).any (by kernel_rfl) (by decide)).any rfl (by kernel_rfl))))
theorem Oe {H : Type} {α : Type} [Rep α] {R : α → Prop} {enc : TypeId × Value → H} {P : Program} {T : TypeId} {fs : Array Field} (ho : BF α R P T) (ht : P.underlying T = some (.struct fs)) {W : World} {base : Nat} {spare : Nat → Bool} {held : Bool} {r : Reach} {b0 : Nat} {v : Value} {d : DataW H} {ps : List MemPlace}
    (hval : Value.okWide P W r b0 T v) (hd : DataW.Trod enc P W base spare held T v d ps) : ∃ (y : α) (cs : List Value), v = .agg cs.toArray ∧ rep (OQ W) y cs ∧ R y := by
  unfold Value.okWide at hval
  rw [ht] at hval
  obtain ⟨cs, rfl, _, _⟩ := hval
  obtain ⟨fuel, hf⟩ := hd
  obtain ⟨y, hy, hR⟩ := ho.of _ _ _ _ _ _ _ _ hf
  exact ⟨y, cs.toList, by simp, by simpa [Value.cells] using hy, hR⟩
theorem RE {H : Type} {α : Type} [Rep α] {R : List α → Prop} {enc : TypeId × Value → H} {P : Program} {T E : TypeId} (ho : BF (List α) R P T) (ht : P.underlying T = some (.slice E)) {W : World} {base : Nat} {spare : Nat → Bool} {held : Bool} {r : Reach} {b0 : Nat} {v : Value} {d : DataW H} {ps : List MemPlace}
    (hval : Value.okWide P W r b0 T v) (hd : DataW.Trod enc P W base spare held T v d ps) : ∃ (y : List α) (a : Option Addr) (c : Nat), v = .slice a y.length c ∧ Az (OQ W) a c y ∧ R y := by
  obtain ⟨a, n, c, rfl⟩ := okWide_slice ht hval
  obtain ⟨fuel, hf⟩ := hd
  obtain ⟨y, hy, hR⟩ := ho.of _ _ _ _ _ _ _ _ hf
  obtain ⟨a', c', h1, h2⟩ := hy
  simp only [Value.cells, List.cons.injEq, and_true] at h1
  cases h1
  exact ⟨y, a, c, rfl, h2, hR⟩
end Go.Proofs.YtokchpjijlebiaaGreat
namespace Go.Proofs.YtokchpjijlebiaaGreat
open Go Go.RowKit Go.ChangeShapes Go.WideShapes Go.ChangeAt
open Rep (rep)
theorem QC : FP 300 = some true := by kernel_rfl
set_option maxHeartbeats 800000 in
set_option maxRecDepth 100000 in
theorem H3 (os : Os) (started : os.Started) (H : Type) (enc : TypeId × Value → H) :
    ReturnsInHanded {} Tryz.checked os 3 .any (Rows.controlShorterSpec.pre6 enc Tryz.prog Tryz.f3 Rows.controlShorterRow.domain false) (Rows.controlShorterSpec.post enc Tryz.prog Tryz.f3 false true false false) := by
  refine returnsInHanded_of_change (C := Tryz.checked) Si started (by kernel_rfl) Tryz.func3
    (ChangeSpec.witness6 (enc := enc) (C := Tryz.checked) false ⟨#[], #[.agg #[.slice none 0 0, .int .i64 0, .int .i64 0, .slice none 0 0, .slice none 0 0, .int .i64 0, .int .i64 0, .int .i64 0, .int .i64 0], .agg #[.slice none 0 0, .slice none 0 0, .slice none 0 0], .slice none 0 0, .int .u8 0, .int .u8 0], []⟩ 8 (by kernel_rfl) (by kernel_rfl) (by kernel_rfl) (by kernel_rfl)) ?_
  intro W base args ds gs before hval0 hW _ _
  have hval : ∀ (j : Nat) t v, Tryz.f3.params[j]? = some t → args[j]? = some v → Value.okWide Tryz.prog W .any base t v := hval0
  have hW' := hW
  obtain ⟨p, q, hA0, hV, rfl, _, _⟩ := hW
  have hA : DataW.TrodAll enc Tryz.prog W 0 (fun _ => true) true Tryz.f3.params.toList args.toList ds p := hA0
  rw [Tryz.params3] at hA hval
  obtain ⟨v0, vs0, d0, ds0, p0, q0, ha0, rfl, rfl, h0, hA⟩ := trodAll_cons hA
  obtain ⟨v1, vs1, d1, ds1, p1, q1, rfl, rfl, rfl, h1, hA⟩ := trodAll_cons hA
  obtain ⟨v2, vs2, d2, ds2, p2, q2, rfl, rfl, rfl, h2, hA⟩ := trodAll_cons hA
  obtain ⟨v3, vs3, d3, ds3, p3, q3, rfl, rfl, rfl, h3, hA⟩ := trodAll_cons hA
  obtain ⟨v4, vs4, d4, ds4, p4, q4, rfl, rfl, rfl, h4, hA⟩ := trodAll_cons hA
  obtain ⟨rfl, rfl, rfl⟩ := trodAll_nil hA
  obtain rfl : args = #[v0, v1, v2, v3, v4] := by cases args; simp_all
  obtain ⟨rfl, rfl⟩ := trodVars_none hV
  obtain ⟨r, cr, rfl, hr, rr⟩ := Oe RD Tryz.underlying28 (hval 0 28 v0 rfl rfl) h0
  obtain ⟨a, ca, rfl, ha, ra⟩ := Oe Sl Tryz.underlying32 (hval 1 32 v1 rfl rfl) h1
  obtain ⟨words, awords, cwords, rfl, hwords, rwords⟩ := RE Sj Tryz.underlying33 (hval 2 33 v2 rfl rfl) h2
  obtain ⟨from_, rfl, rfl, rfl, wfrom_⟩ := open_int Tryz.underlying5 (hval 3 5 v3 rfl rfl) h3
  obtain ⟨end_, rfl, rfl, rfl, wend_⟩ := open_int Tryz.underlying5 (hval 4 5 v4 rfl rfl) h4
  clear hA0 hval0
  simp only [List.append_nil] at hW'
  have hlt : ∀ z ∈ p0 ++ p1 ++ p2, z.block < W.heap.size := fun z hz => hW'.lt z (by simpa using hz)
  have bfrom_ := Oc wfrom_
  have bend_ := Oc wend_
  refine (H7 300 (Rm W) r hr a ha words hwords ⟨from_⟩ ⟨end_⟩ (IZ 300 (by decide) (by decide) QC r a words ⟨from_⟩ ⟨end_⟩ (fun x hx => Qp (rwords x hx)) bfrom_.1 bfrom_.2 bend_.1 bend_.2)).mono fun e W' ⟨v, h', he, hb, _, _, hv⟩ => ?_
  subst he hv
  have harg0 : DataW.Trod enc Tryz.prog W' 0 (fun b => decide (b < W.heap.size)) true 28 (.agg cr.toArray) d0 p0 :=
    Below.trod IX (by kernel_rfl) (of_decide_eq_true (by kernel_rfl)) h0 hb (fun z hz => hlt z (by simp [hz]))
  have harg1 : DataW.Trod enc Tryz.prog W' 0 (fun b => decide (b < W.heap.size)) true 32 (.agg ca.toArray) d1 p1 :=
    Below.trod IX (by kernel_rfl) (of_decide_eq_true (by kernel_rfl)) h1 hb (fun z hz => hlt z (by simp [hz]))
  have harg2 : DataW.Trod enc Tryz.prog W' 0 (fun b => decide (b < W.heap.size)) true 33 (.slice awords words.length cwords) d2 p2 :=
    Below.trod IX (by kernel_rfl) (of_decide_eq_true (by kernel_rfl)) h2 hb (fun z hz => hlt z (by simp [hz]))
  refine ⟨_, rfl, _, _, _, [], p0 ++ (p1 ++ p2), [], hW', ?_, ?_, rfl, hb.frame _, fun h => by cases h⟩
  · exact trodAll_mk1 (shut_bool Tryz.underlying4 _)
  · exact ⟨p0, p1 ++ p2, harg0, ⟨p1, p2, harg1, ⟨p2, [], harg2, ⟨[], [], shut_int Tryz.underlying5 wfrom_, ⟨[], [], shut_int Tryz.underlying5 wend_, rfl, by simp⟩, by simp⟩, by simp⟩, by simp⟩, by simp⟩
theorem controlShorter_holds : Rows.ControlShorterSaid :=
  OpenClaim.holds_of_wide 3 Tryz.f3 rfl rfl rfl rfl rfl rfl rfl ⟨rfl, rfl, rfl, rfl, rfl⟩ rfl rfl rfl rfl rfl (by kernel_rfl) Tryz.func3 (by kernel_rfl)
    (of_decide_eq_true (by kernel_rfl)) (by unfold Func.isWrapper; rw [if_neg (of_decide_eq_false (by kernel_rfl))]; exact ⟨rfl, rfl⟩)
    (fun os started H enc _ => H3 os started H enc)
end Go.Proofs.YtokchpjijlebiaaGreat
