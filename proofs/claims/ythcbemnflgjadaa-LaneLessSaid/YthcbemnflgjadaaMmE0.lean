/- LaneMornings, for every input. -/
import Derived.Test.YthcbemnflgjadaaMmP0
import Derived.Test.YthcbemnflgjadaaMmS9
import Derived.Test.YthcbemnflgjadaaRows
import Derived.ProofKit
import Derived.KernelRfl
import Derived.Test.YthcbemnflgjadaaMmWK
import Derived.Test.YthcbemnflgjadaaMmL0
import Derived.Test.YthcbemnflgjadaaMmWJ
set_option linter.all false
namespace Go.Proofs.Ythcbemnflgjadaa
open Go Go.RowKit Go.ChangeShapes Go.WideShapes Go.ChangeAt
open Rep (rep)
theorem QI : ownKnob Try.prog.godebug = none := by kernel_rfl
theorem EG : laidOutB Try.prog = true := by kernel_rfl
theorem Qt {n : Int} (h : (Lit.int .u16 n).wf = true) : 0 ≤ n ∧ n ≤ 65535 := by
  simpa [Lit.wf, IntKind.min, IntKind.max, IntKind.bits, IntKind.signed] using h
def QJ {α : Type} (_ : α) : Prop := True
theorem Ce.any {α : Type} [Rep α] {R : α → Prop} {P : Program} {T : TypeId} (h : Ce α R P T) : Ce α QJ P T := ⟨fun enc w base spare held fuel cs x hx => by
  obtain ⟨y, hy, _⟩ := h.of enc w base spare held fuel cs x hx
  exact ⟨y, hy, trivial⟩⟩
theorem Ox : Ce Int QJ Try.prog 3 := (Ce.int Try.underlying3).any
theorem NF : Ce (List Int) QJ Try.prog 22 := (Ce.slice Try.underlying22 Ox (by kernel_rfl) (by decide)).any
theorem Sn : Ce (List (IK .u16)) (fun l => ∀ x ∈ l, (Lit.int .u16 x.n).wf = true) Try.prog 46 := Ce.slice Try.underlying46 (Ce.ik Try.underlying45) (by kernel_rfl) (by decide)
theorem S2 : Ce B5 QJ Try.prog 49 := Ce.struct (fun x => (x.lo, x.hi, x.turn)) (fun y => ⟨y.1, y.2.1, y.2.2⟩) (fun _ _ => trivial) (fun _ => rfl) (fun _ _ _ h => h) Try.underlying49 (by kernel_rfl)
  (Fo.cons Ox rfl (by kernel_rfl) (Fo.cons Ox rfl (by kernel_rfl) (Fo.one Ox rfl (by kernel_rfl))))
theorem QK : Ce Aj QJ Try.prog 25 := Ce.struct (fun x => (x.room, x.buses, x.broken)) (fun y => ⟨y.1, y.2.1, y.2.2⟩) (fun _ _ => trivial) (fun _ => rfl) (fun _ _ _ h => h) Try.underlying25 (by kernel_rfl)
  (Fo.cons NF rfl (by kernel_rfl) (Fo.cons (Ce.slice Try.underlying23 S2 (by kernel_rfl) (by decide)).any rfl (by kernel_rfl) (Fo.one Ox rfl (by kernel_rfl))))
theorem Oy {H : Type} {α : Type} [Rep α] {R : α → Prop} {enc : TypeId × Value → H} {P : Program} {T : TypeId} {fs : Array Field} (ho : Ce α R P T) (ht : P.underlying T = some (.struct fs)) {W : World} {base : Nat} {spare : Nat → Bool} {held : Bool} {r : Reach} {b0 : Nat} {v : Value} {d : DataW H} {ps : List MemPlace}
    (hval : Value.okWide P W r b0 T v) (hd : DataW.Trod enc P W base spare held T v d ps) : ∃ (y : α) (cs : List Value), v = .agg cs.toArray ∧ rep (Pf W) y cs ∧ R y := by
  unfold Value.okWide at hval
  rw [ht] at hval
  obtain ⟨cs, rfl, _, _⟩ := hval
  obtain ⟨fuel, hf⟩ := hd
  obtain ⟨y, hy, hR⟩ := ho.of _ _ _ _ _ _ _ _ hf
  exact ⟨y, cs.toList, by simp, by simpa [Value.cells] using hy, hR⟩
theorem Lw {H : Type} {α : Type} [Rep α] {R : List α → Prop} {enc : TypeId × Value → H} {P : Program} {T E : TypeId} (ho : Ce (List α) R P T) (ht : P.underlying T = some (.slice E)) {W : World} {base : Nat} {spare : Nat → Bool} {held : Bool} {r : Reach} {b0 : Nat} {v : Value} {d : DataW H} {ps : List MemPlace}
    (hval : Value.okWide P W r b0 T v) (hd : DataW.Trod enc P W base spare held T v d ps) : ∃ (y : List α) (a : Option Addr) (c : Nat), v = .slice a y.length c ∧ Av (Pf W) a c y ∧ R y := by
  obtain ⟨a, n, c, rfl⟩ := okWide_slice ht hval
  obtain ⟨fuel, hf⟩ := hd
  obtain ⟨y, hy, hR⟩ := ho.of _ _ _ _ _ _ _ _ hf
  obtain ⟨a', c', h1, h2⟩ := hy
  simp only [Value.cells, List.cons.injEq, and_true] at h1
  cases h1
  exact ⟨y, a, c, rfl, h2, hR⟩
end Go.Proofs.Ythcbemnflgjadaa
namespace Go.Proofs.Ythcbemnflgjadaa
open Go Go.RowKit Go.ChangeShapes Go.WideShapes Go.ChangeAt
open Rep (rep)
set_option maxHeartbeats 800000 in
set_option maxRecDepth 100000 in
theorem Ll (os : Os) (started : os.Started) (H : Type) (enc : TypeId × Value → H) :
    ReturnsInHanded {} Try.checked os 6 .any (Rows.laneLessSpec.pre6 enc Try.prog Try.f6 Rows.laneLessRow.domain false) (Rows.laneLessSpec.post enc Try.prog Try.f6 false true false false) := by
  refine returnsInHanded_of_change (C := Try.checked) QI started (by kernel_rfl) Try.func6
    (ChangeSpec.witness6 (enc := enc) (C := Try.checked) false ⟨#[], #[.agg #[.slice none 0 0, .slice none 0 0, .int .i64 0], .slice none 0 0], []⟩ 8 (by kernel_rfl) (by kernel_rfl) (by kernel_rfl) (by kernel_rfl)) ?_
  intro W base args ds gs before hval0 hW _ _
  have hval : ∀ (j : Nat) t v, Try.f6.params[j]? = some t → args[j]? = some v → Value.okWide Try.prog W .any base t v := hval0
  have hW' := hW
  obtain ⟨p, q, hA0, hV, rfl, _, _⟩ := hW
  have hA : DataW.TrodAll enc Try.prog W 0 (fun _ => true) true Try.f6.params.toList args.toList ds p := hA0
  rw [Try.params6] at hA hval
  obtain ⟨v0, vs0, d0, ds0, p0, q0, ha0, rfl, rfl, h0, hA⟩ := trodAll_cons hA
  obtain ⟨v1, vs1, d1, ds1, p1, q1, rfl, rfl, rfl, h1, hA⟩ := trodAll_cons hA
  obtain ⟨rfl, rfl, rfl⟩ := trodAll_nil hA
  obtain rfl : args = #[v0, v1] := by cases args; simp_all
  obtain ⟨rfl, rfl⟩ := trodVars_none hV
  obtain ⟨y, cy, rfl, hy, ry⟩ := Oy QK Try.underlying25 (hval 0 25 v0 rfl rfl) h0
  obtain ⟨words, awords, cwords, rfl, hwords, rwords⟩ := Lw Sn Try.underlying46 (hval 1 46 v1 rfl rfl) h1
  clear hA0 hval0
  simp only [List.append_nil] at hW'
  have hlt : ∀ z ∈ p0 ++ p1, z.block < W.heap.size := fun z hz => hW'.lt z (by simpa using hz)
  refine (Lv 700 (Pg W) y hy words hwords (NO y words (fun x hx => Qt (rwords x hx)))).mono fun e W' ⟨v, h', he, hb, _, _, hv⟩ => ?_
  subst he hv
  have harg0 : DataW.Trod enc Try.prog W' 0 (fun b => decide (b < W.heap.size)) true 25 (.agg cy.toArray) d0 p0 :=
    Below.trod EG (by kernel_rfl) (of_decide_eq_true (by kernel_rfl)) h0 hb (fun z hz => hlt z (by simp [hz]))
  have harg1 : DataW.Trod enc Try.prog W' 0 (fun b => decide (b < W.heap.size)) true 46 (.slice awords words.length cwords) d1 p1 :=
    Below.trod EG (by kernel_rfl) (of_decide_eq_true (by kernel_rfl)) h1 hb (fun z hz => hlt z (by simp [hz]))
  refine ⟨_, rfl, _, _, _, [], p0 ++ p1, [], hW', ?_, ?_, rfl, hb.frame _, fun h => by cases h⟩
  · exact trodAll_mk1 (shut_bool Try.underlying4 _)
  · exact ⟨p0, p1, harg0, ⟨p1, [], harg1, rfl, by simp⟩, by simp⟩
theorem laneLess_holds : Rows.LaneLessSaid :=
  OpenClaim.holds_of_wide 6 Try.f6 rfl rfl rfl rfl rfl rfl rfl ⟨rfl, rfl, rfl, rfl, rfl⟩ rfl rfl rfl rfl rfl (by kernel_rfl) Try.func6 (by kernel_rfl)
    (of_decide_eq_true (by kernel_rfl)) (by unfold Func.isWrapper; rw [if_neg (of_decide_eq_false (by kernel_rfl))]; exact ⟨rfl, rfl⟩)
    (fun os started H enc _ => Ll os started H enc)
end Go.Proofs.Ythcbemnflgjadaa
namespace Go.Proofs.Ythcbemnflgjadaa
open Go Go.RowKit Go.ChangeShapes Go.WideShapes Go.ChangeAt
open Rep (rep)
set_option maxHeartbeats 800000 in
set_option maxRecDepth 100000 in
theorem I7 (os : Os) (started : os.Started) (H : Type) (enc : TypeId × Value → H) :
    ReturnsInHanded {} Try.checked os 9 .any (Rows.laneMorningsSpec.pre6 enc Try.prog Try.f9 Rows.laneMorningsRow.domain false) (Rows.laneMorningsSpec.post enc Try.prog Try.f9 false true false false) := by
  refine returnsInHanded_of_change (C := Try.checked) QI started (by kernel_rfl) Try.func9
    (ChangeSpec.witness6 (enc := enc) (C := Try.checked) false ⟨#[], #[.agg #[.slice none 0 0, .slice none 0 0, .int .i64 0], .slice none 0 0, .slice none 0 0, .slice none 0 0], []⟩ 8 (by kernel_rfl) (by kernel_rfl) (by kernel_rfl) (by kernel_rfl)) ?_
  intro W base args ds gs before hval0 hW _ _
  have hval : ∀ (j : Nat) t v, Try.f9.params[j]? = some t → args[j]? = some v → Value.okWide Try.prog W .any base t v := hval0
  have hW' := hW
  obtain ⟨p, q, hA0, hV, rfl, _, _⟩ := hW
  have hA : DataW.TrodAll enc Try.prog W 0 (fun _ => true) true Try.f9.params.toList args.toList ds p := hA0
  rw [Try.params9] at hA hval
  obtain ⟨v0, vs0, d0, ds0, p0, q0, ha0, rfl, rfl, h0, hA⟩ := trodAll_cons hA
  obtain ⟨v1, vs1, d1, ds1, p1, q1, rfl, rfl, rfl, h1, hA⟩ := trodAll_cons hA
  obtain ⟨v2, vs2, d2, ds2, p2, q2, rfl, rfl, rfl, h2, hA⟩ := trodAll_cons hA
  obtain ⟨v3, vs3, d3, ds3, p3, q3, rfl, rfl, rfl, h3, hA⟩ := trodAll_cons hA
  obtain ⟨rfl, rfl, rfl⟩ := trodAll_nil hA
  obtain rfl : args = #[v0, v1, v2, v3] := by cases args; simp_all
  obtain ⟨rfl, rfl⟩ := trodVars_none hV
  obtain ⟨y, cy, rfl, hy, ry⟩ := Oy QK Try.underlying25 (hval 0 25 v0 rfl rfl) h0
  obtain ⟨lanes, alanes, clanes, rfl, hlanes, rlanes⟩ := Lw NF Try.underlying22 (hval 1 22 v1 rfl rfl) h1
  obtain ⟨order, aorder, corder, rfl, horder, rorder⟩ := Lw NF Try.underlying22 (hval 2 22 v2 rfl rfl) h2
  obtain ⟨broken, abroken, cbroken, rfl, hbroken, rbroken⟩ := Lw NF Try.underlying22 (hval 3 22 v3 rfl rfl) h3
  clear hA0 hval0
  simp only [List.append_nil] at hW'
  have hlt : ∀ z ∈ p0 ++ p1 ++ p2 ++ p3, z.block < W.heap.size := fun z hz => hW'.lt z (by simpa using hz)
  refine (IA 700 (Pg W) y hy lanes hlanes order horder broken hbroken (Kp y lanes order broken)).mono fun e W' ⟨v, h', he, hb, _, _, hv⟩ => ?_
  subst he hv
  have harg0 : DataW.Trod enc Try.prog W' 0 (fun b => decide (b < W.heap.size)) true 25 (.agg cy.toArray) d0 p0 :=
    Below.trod EG (by kernel_rfl) (of_decide_eq_true (by kernel_rfl)) h0 hb (fun z hz => hlt z (by simp [hz]))
  have harg1 : DataW.Trod enc Try.prog W' 0 (fun b => decide (b < W.heap.size)) true 22 (.slice alanes lanes.length clanes) d1 p1 :=
    Below.trod EG (by kernel_rfl) (of_decide_eq_true (by kernel_rfl)) h1 hb (fun z hz => hlt z (by simp [hz]))
  have harg2 : DataW.Trod enc Try.prog W' 0 (fun b => decide (b < W.heap.size)) true 22 (.slice aorder order.length corder) d2 p2 :=
    Below.trod EG (by kernel_rfl) (of_decide_eq_true (by kernel_rfl)) h2 hb (fun z hz => hlt z (by simp [hz]))
  have harg3 : DataW.Trod enc Try.prog W' 0 (fun b => decide (b < W.heap.size)) true 22 (.slice abroken broken.length cbroken) d3 p3 :=
    Below.trod EG (by kernel_rfl) (of_decide_eq_true (by kernel_rfl)) h3 hb (fun z hz => hlt z (by simp [hz]))
  refine ⟨_, rfl, _, _, _, [], p0 ++ (p1 ++ (p2 ++ p3)), [], hW', ?_, ?_, rfl, hb.frame _, fun h => by cases h⟩
  · exact trodAll_mk1 (shut_bool Try.underlying4 _)
  · exact ⟨p0, p1 ++ (p2 ++ p3), harg0, ⟨p1, p2 ++ p3, harg1, ⟨p2, p3, harg2, ⟨p3, [], harg3, rfl, by simp⟩, by simp⟩, by simp⟩, by simp⟩
theorem laneMornings_holds : Rows.LaneMorningsSaid :=
  OpenClaim.holds_of_wide 9 Try.f9 rfl rfl rfl rfl rfl rfl rfl ⟨rfl, rfl, rfl, rfl, rfl⟩ rfl rfl rfl rfl rfl (by kernel_rfl) Try.func9 (by kernel_rfl)
    (of_decide_eq_true (by kernel_rfl)) (by unfold Func.isWrapper; rw [if_neg (of_decide_eq_false (by kernel_rfl))]; exact ⟨rfl, rfl⟩)
    (fun os started H enc _ => I7 os started H enc)
end Go.Proofs.Ythcbemnflgjadaa
