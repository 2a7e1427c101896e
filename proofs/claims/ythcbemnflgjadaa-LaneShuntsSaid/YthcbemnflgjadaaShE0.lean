/- LaneShunts, for every input. -/
import Derived.Test.YthcbemnflgjadaaShP0
import Derived.Test.YthcbemnflgjadaaShS9
import Derived.Test.YthcbemnflgjadaaRows
import Derived.ProofKit
import Derived.KernelRfl
import Derived.Test.YthcbemnflgjadaaShWJ
import Derived.Test.YthcbemnflgjadaaShL0
set_option linter.all false
namespace Go.Proofs.Ythcbemnflgjadaa
open Go Go.RowKit Go.ChangeShapes Go.WideShapes Go.ChangeAt
open Rep (rep)
theorem tryOwn : ownKnob Try.prog.godebug = none := by kernel_rfl
theorem tryLaidOut : laidOutB Try.prog = true := by kernel_rfl
def anyR {α : Type} (_ : α) : Prop := True
theorem Opens.any {α : Type} [Rep α] {R : α → Prop} {P : Program} {T : TypeId} (h : Opens α R P T) : Opens α anyR P T := ⟨fun enc w base spare held fuel cs x hx => by
  obtain ⟨y, hy, _⟩ := h.of enc w base spare held fuel cs x hx
  exact ⟨y, hy, trivial⟩⟩
theorem opInt : Opens Int anyR Try.prog 3 := (Opens.int Try.underlying3).any
theorem opInts : Opens (List Int) anyR Try.prog 22 := (Opens.slice Try.underlying22 opInt (by kernel_rfl) (by decide)).any
theorem opBus : Opens Bus anyR Try.prog 49 := Opens.struct (fun x => (x.lo, x.hi, x.turn)) (fun y => ⟨y.1, y.2.1, y.2.2⟩) (fun _ _ => trivial) (fun _ => rfl) (fun _ _ _ h => h) Try.underlying49 (by kernel_rfl)
  (OpensF.cons opInt rfl (by kernel_rfl) (OpensF.cons opInt rfl (by kernel_rfl) (OpensF.one opInt rfl (by kernel_rfl))))
theorem opYard : Opens Yard anyR Try.prog 25 := Opens.struct (fun x => (x.room, x.buses, x.broken)) (fun y => ⟨y.1, y.2.1, y.2.2⟩) (fun _ _ => trivial) (fun _ => rfl) (fun _ _ _ h => h) Try.underlying25 (by kernel_rfl)
  (OpensF.cons opInts rfl (by kernel_rfl) (OpensF.cons (Opens.slice Try.underlying23 opBus (by kernel_rfl) (by decide)).any rfl (by kernel_rfl) (OpensF.one opInt rfl (by kernel_rfl))))
theorem open_arg {H : Type} {α : Type} [Rep α] {R : α → Prop} {enc : TypeId × Value → H} {P : Program} {T : TypeId} {fs : Array Field} (ho : Opens α R P T) (ht : P.underlying T = some (.struct fs)) {W : World} {base : Nat} {spare : Nat → Bool} {held : Bool} {r : Reach} {b0 : Nat} {v : Value} {d : DataW H} {ps : List MemPlace}
    (hval : Value.okWide P W r b0 T v) (hd : DataW.Trod enc P W base spare held T v d ps) : ∃ (y : α) (cs : List Value), v = .agg cs.toArray ∧ rep (allH W) y cs ∧ R y := by
  unfold Value.okWide at hval
  rw [ht] at hval
  obtain ⟨cs, rfl, _, _⟩ := hval
  obtain ⟨fuel, hf⟩ := hd
  obtain ⟨y, hy, hR⟩ := ho.of _ _ _ _ _ _ _ _ hf
  exact ⟨y, cs.toList, by simp, by simpa [Value.cells] using hy, hR⟩
theorem open_sl {H : Type} {α : Type} [Rep α] {R : List α → Prop} {enc : TypeId × Value → H} {P : Program} {T E : TypeId} (ho : Opens (List α) R P T) (ht : P.underlying T = some (.slice E)) {W : World} {base : Nat} {spare : Nat → Bool} {held : Bool} {r : Reach} {b0 : Nat} {v : Value} {d : DataW H} {ps : List MemPlace}
    (hval : Value.okWide P W r b0 T v) (hd : DataW.Trod enc P W base spare held T v d ps) : ∃ (y : List α) (a : Option Addr) (c : Nat), v = .slice a y.length c ∧ RepS (allH W) a c y ∧ R y := by
  obtain ⟨a, n, c, rfl⟩ := okWide_slice ht hval
  obtain ⟨fuel, hf⟩ := hd
  obtain ⟨y, hy, hR⟩ := ho.of _ _ _ _ _ _ _ _ hf
  obtain ⟨a', c', h1, h2⟩ := hy
  simp only [Value.cells, List.cons.injEq, and_true] at h1
  cases h1
  exact ⟨y, a, c, rfl, h2, hR⟩
end Go.Proofs.Ythcbemnflgjadaa
namespace Go.Proofs.Ythcbemnflgjadaa
open Go Go.RowKit Go.ChangeShapes Go.WideShapes Go.ChangeAt
open Rep (rep)
set_option maxHeartbeats 800000 in
set_option maxRecDepth 100000 in
theorem laneShunts_lifted (os : Os) (started : os.Started) (H : Type) (enc : TypeId × Value → H) :
    ReturnsInHanded {} Try.checked os 3 .any (Rows.laneShuntsSpec.pre6 enc Try.prog Try.f3 Rows.laneShuntsRow.domain false) (Rows.laneShuntsSpec.post enc Try.prog Try.f3 false true false false) := by
  refine returnsInHanded_of_change (C := Try.checked) tryOwn started (by kernel_rfl) Try.func3
    (ChangeSpec.witness6 (enc := enc) (C := Try.checked) false ⟨#[], #[.agg #[.slice none 0 0, .slice none 0 0, .int .i64 0], .slice none 0 0, .slice none 0 0, .slice none 0 0], []⟩ 8 (by kernel_rfl) (by kernel_rfl) (by kernel_rfl) (by kernel_rfl)) ?_
  intro W base args ds gs before hval0 hW _ _
  have hval : ∀ (j : Nat) t v, Try.f3.params[j]? = some t → args[j]? = some v → Value.okWide Try.prog W .any base t v := hval0
  have hW' := hW
  obtain ⟨p, q, hA0, hV, rfl, _, _⟩ := hW
  have hA : DataW.TrodAll enc Try.prog W 0 (fun _ => true) true Try.f3.params.toList args.toList ds p := hA0
  rw [Try.params3] at hA hval
  obtain ⟨v0, vs0, d0, ds0, p0, q0, ha0, rfl, rfl, h0, hA⟩ := trodAll_cons hA
  obtain ⟨v1, vs1, d1, ds1, p1, q1, rfl, rfl, rfl, h1, hA⟩ := trodAll_cons hA
  obtain ⟨v2, vs2, d2, ds2, p2, q2, rfl, rfl, rfl, h2, hA⟩ := trodAll_cons hA
  obtain ⟨v3, vs3, d3, ds3, p3, q3, rfl, rfl, rfl, h3, hA⟩ := trodAll_cons hA
  obtain ⟨rfl, rfl, rfl⟩ := trodAll_nil hA
  obtain rfl : args = #[v0, v1, v2, v3] := by cases args; simp_all
  obtain ⟨rfl, rfl⟩ := trodVars_none hV
  obtain ⟨y, cy, rfl, hy, ry⟩ := open_arg opYard Try.underlying25 (hval 0 25 v0 rfl rfl) h0
  obtain ⟨lanes, alanes, clanes, rfl, hlanes, rlanes⟩ := open_sl opInts Try.underlying22 (hval 1 22 v1 rfl rfl) h1
  obtain ⟨order, aorder, corder, rfl, horder, rorder⟩ := open_sl opInts Try.underlying22 (hval 2 22 v2 rfl rfl) h2
  obtain ⟨broken, abroken, cbroken, rfl, hbroken, rbroken⟩ := open_sl opInts Try.underlying22 (hval 3 22 v3 rfl rfl) h3
  clear hA0 hval0
  simp only [List.append_nil] at hW'
  have hlt : ∀ z ∈ p0 ++ p1 ++ p2 ++ p3, z.block < W.heap.size := fun z hz => hW'.lt z (by simpa using hz)
  refine (law_LaneShunts_ok 700 (allH_has W) y hy lanes hlanes order horder broken hbroken (laneShunts_law y lanes order broken)).mono fun e W' ⟨v, h', he, hb, _, _, hv⟩ => ?_
  subst he hv
  have harg0 : DataW.Trod enc Try.prog W' 0 (fun b => decide (b < W.heap.size)) true 25 (.agg cy.toArray) d0 p0 :=
    Below.trod tryLaidOut (by kernel_rfl) (of_decide_eq_true (by kernel_rfl)) h0 hb (fun z hz => hlt z (by simp [hz]))
  have harg1 : DataW.Trod enc Try.prog W' 0 (fun b => decide (b < W.heap.size)) true 22 (.slice alanes lanes.length clanes) d1 p1 :=
    Below.trod tryLaidOut (by kernel_rfl) (of_decide_eq_true (by kernel_rfl)) h1 hb (fun z hz => hlt z (by simp [hz]))
  have harg2 : DataW.Trod enc Try.prog W' 0 (fun b => decide (b < W.heap.size)) true 22 (.slice aorder order.length corder) d2 p2 :=
    Below.trod tryLaidOut (by kernel_rfl) (of_decide_eq_true (by kernel_rfl)) h2 hb (fun z hz => hlt z (by simp [hz]))
  have harg3 : DataW.Trod enc Try.prog W' 0 (fun b => decide (b < W.heap.size)) true 22 (.slice abroken broken.length cbroken) d3 p3 :=
    Below.trod tryLaidOut (by kernel_rfl) (of_decide_eq_true (by kernel_rfl)) h3 hb (fun z hz => hlt z (by simp [hz]))
  refine ⟨_, rfl, _, _, _, [], p0 ++ (p1 ++ (p2 ++ p3)), [], hW', ?_, ?_, rfl, hb.frame _, fun h => by cases h⟩
  · exact trodAll_mk1 (shut_bool Try.underlying4 _)
  · exact ⟨p0, p1 ++ (p2 ++ p3), harg0, ⟨p1, p2 ++ p3, harg1, ⟨p2, p3, harg2, ⟨p3, [], harg3, rfl, by simp⟩, by simp⟩, by simp⟩, by simp⟩
theorem laneShunts_holds : Rows.LaneShuntsSaid :=
  OpenClaim.holds_of_wide 3 Try.f3 rfl rfl rfl rfl rfl rfl rfl ⟨rfl, rfl, rfl, rfl, rfl⟩ rfl rfl rfl rfl rfl (by kernel_rfl) Try.func3 (by kernel_rfl)
    (of_decide_eq_true (by kernel_rfl)) (by unfold Func.isWrapper; rw [if_neg (of_decide_eq_false (by kernel_rfl))]; exact ⟨rfl, rfl⟩)
    (fun os started H enc _ => laneShunts_lifted os started H enc)
end Go.Proofs.Ythcbemnflgjadaa
