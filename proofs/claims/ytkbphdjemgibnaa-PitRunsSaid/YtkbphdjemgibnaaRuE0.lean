/- PitRuns, for every input. -/
import Derived.Test.YtkbphdjemgibnaaRuP0
import Derived.Test.YtkbphdjemgibnaaRuS7
import Derived.Test.YtkbphdjemgibnaaRows
import Derived.ProofKit
import Derived.KernelRfl
import Derived.Test.YtkbphdjemgibnaaRuWL7
import Derived.Test.YtkbphdjemgibnaaRuL0
set_option linter.all false
namespace Go.Proofs.Ytkbphdjemgibnaa
open Go Go.RowKit Go.ChangeShapes Go.WideShapes Go.ChangeAt
open Rep (rep)
theorem tryOwn : ownKnob Try.prog.godebug = none := by kernel_rfl
theorem tryLaidOut : laidOutB Try.prog = true := by kernel_rfl
theorem u16_range {n : Int} (h : (Lit.int .u16 n).wf = true) : 0 ≤ n ∧ n ≤ 65535 := by
  simpa [Lit.wf, IntKind.min, IntKind.max, IntKind.bits, IntKind.signed] using h
theorem u32_range {n : Int} (h : (Lit.int .u32 n).wf = true) : 0 ≤ n ∧ n ≤ 4294967295 := by
  simpa [Lit.wf, IntKind.min, IntKind.max, IntKind.bits, IntKind.signed] using h
def anyR {α : Type} (_ : α) : Prop := True
theorem Opens.any {α : Type} [Rep α] {R : α → Prop} {P : Program} {T : TypeId} (h : Opens α R P T) : Opens α anyR P T := ⟨fun enc w base spare held fuel cs x hx => by
  obtain ⟨y, hy, _⟩ := h.of enc w base spare held fuel cs x hx
  exact ⟨y, hy, trivial⟩⟩
theorem opInt : Opens Int anyR Try.prog 3 := (Opens.int Try.underlying3).any
theorem opRg : Opens Rg anyR Try.prog 46 := Opens.struct (fun x => (x.lo, x.hi)) (fun y => ⟨y.1, y.2⟩) (fun _ _ => trivial) (fun _ => rfl) (fun _ _ _ h => h) Try.underlying46 (by kernel_rfl)
  (OpensF.cons opInt rfl (by kernel_rfl) (OpensF.one opInt rfl (by kernel_rfl)))
theorem opWear : Opens Wear anyR Try.prog 48 := Opens.struct (fun x => (x.miles, x.daily, x.age, x.far, x.long)) (fun y => ⟨y.1, y.2.1, y.2.2.1, y.2.2.2.1, y.2.2.2.2⟩) (fun _ _ => trivial) (fun _ => rfl) (fun _ _ _ h => h) Try.underlying48 (by kernel_rfl)
  (OpensF.cons opRg rfl (by kernel_rfl) (OpensF.cons opRg rfl (by kernel_rfl) (OpensF.cons opInt rfl (by kernel_rfl) (OpensF.cons opInt rfl (by kernel_rfl) (OpensF.one opInt rfl (by kernel_rfl))))))
theorem opU16s : Opens (List (IK .u16)) (fun l => ∀ x ∈ l, (Lit.int .u16 x.n).wf = true) Try.prog 61 := Opens.slice Try.underlying61 (Opens.ik Try.underlying62) (by kernel_rfl) (by decide)
theorem open_arg {H : Type} {α : Type} [Rep α] {R : α → Prop} {enc : TypeId × Value → H} {P : Program} {T : TypeId} {fs : Array Field} (ho : Opens α R P T) (ht : P.underlying T = some (.struct fs)) {W : World} {base : Nat} {spare : Nat → Bool} {held : Bool} {r : Reach} {b0 : Nat} {v : Value} {d : DataW H} {ps : List MemPlace}
    (hval : Value.okWide P W r b0 T v) (hd : DataW.Trod enc P W base spare held T v d ps) : ∃ (y : α) (cs : List Value), v = .agg cs.toArray ∧ rep (allH W) y cs ∧ R y := by
  unfold Value.okWide at hval
  rw [ht] at hval
  obtain ⟨cs, rfl, _, _⟩ := hval
  obtain ⟨fuel, hf⟩ := hd
  obtain ⟨y, hy, hR⟩ := ho.of _ _ _ _ _ _ _ _ hf
  exact ⟨y, cs.toList, by simp, by simpa [Value.cells] using hy, hR⟩
theorem open_sl {H : Type} {α : Type} [Rep α] {R : List α → Prop} {enc : TypeId × Value → H} {P : Program} {T E : TypeId} (ho : Opens (List α) R P T) (ht : P.underlying T = some (.slice E)) {W : World} {base : Nat} {spare : Nat → Bool} {held : Bool} {r : Reach} {b0 : Nat} {v : Value} {d : DataW H} {ps : List MemPlace}
    (hval : Value.okWide P W r b0 T v) (hd : DataW.Trod enc P W base spare held T v d ps) : ∃ (y : List α) (a : Option Addr) (c : Nat), v = .slice a y.length c ∧ RepS (allH W) a c y ∧ R y := by
  obtain ⟨a, n, c, rfl⟩ := okWide_slice ht hval
  obtain ⟨fuel, hf⟩ := hd
  obtain ⟨y, hy, hR⟩ := ho.of _ _ _ _ _ _ _ _ hf
  obtain ⟨a', c', h1, h2⟩ := hy
  simp only [Value.cells, List.cons.injEq, and_true] at h1
  cases h1
  exact ⟨y, a, c, rfl, h2, hR⟩
end Go.Proofs.Ytkbphdjemgibnaa
namespace Go.Proofs.Ytkbphdjemgibnaa
open Go Go.RowKit Go.ChangeShapes Go.WideShapes Go.ChangeAt
open Rep (rep)
set_option maxHeartbeats 800000 in
set_option maxRecDepth 100000 in
theorem pitRuns_lifted (os : Os) (started : os.Started) (H : Type) (enc : TypeId × Value → H) :
    ReturnsInHanded {} Try.checked os 7 .any (Rows.pitRunsSpec.pre6 enc Try.prog Try.f7 Rows.pitRunsRow.domain false) (Rows.pitRunsSpec.post enc Try.prog Try.f7 false true false false) := by
  refine returnsInHanded_of_change (C := Try.checked) tryOwn started (by kernel_rfl) Try.func7
    (ChangeSpec.witness6 (enc := enc) (C := Try.checked) false ⟨#[], #[.agg #[.int .i64 0, .int .i64 0, .int .i64 0, .int .i64 0, .int .i64 0, .int .i64 0, .int .i64 0], .int .u32 0, .slice none 0 0, .int .u16 0], []⟩ 8 (by kernel_rfl) (by kernel_rfl) (by kernel_rfl) (by kernel_rfl)) ?_
  intro W base args ds gs before hval0 hW _ _
  have hval : ∀ (j : Nat) t v, Try.f7.params[j]? = some t → args[j]? = some v → Value.okWide Try.prog W .any base t v := hval0
  have hW' := hW
  obtain ⟨p, q, hA0, hV, rfl, _, _⟩ := hW
  have hA : DataW.TrodAll enc Try.prog W 0 (fun _ => true) true Try.f7.params.toList args.toList ds p := hA0
  rw [Try.params7] at hA hval
  obtain ⟨v0, vs0, d0, ds0, p0, q0, ha0, rfl, rfl, h0, hA⟩ := trodAll_cons hA
  obtain ⟨v1, vs1, d1, ds1, p1, q1, rfl, rfl, rfl, h1, hA⟩ := trodAll_cons hA
  obtain ⟨v2, vs2, d2, ds2, p2, q2, rfl, rfl, rfl, h2, hA⟩ := trodAll_cons hA
  obtain ⟨v3, vs3, d3, ds3, p3, q3, rfl, rfl, rfl, h3, hA⟩ := trodAll_cons hA
  obtain ⟨rfl, rfl, rfl⟩ := trodAll_nil hA
  obtain rfl : args = #[v0, v1, v2, v3] := by cases args; simp_all
  obtain ⟨rfl, rfl⟩ := trodVars_none hV
  obtain ⟨w, cw, rfl, hw, rw⟩ := open_arg opWear Try.underlying48 (hval 0 48 v0 rfl rfl) h0
  obtain ⟨miles, rfl, rfl, rfl, wmiles⟩ := open_int Try.underlying25 (hval 1 25 v1 rfl rfl) h1
  obtain ⟨words, awords, cwords, rfl, hwords, rwords⟩ := open_sl opU16s Try.underlying61 (hval 2 61 v2 rfl rfl) h2
  obtain ⟨day, rfl, rfl, rfl, wday⟩ := open_int Try.underlying62 (hval 3 62 v3 rfl rfl) h3
  clear hA0 hval0
  simp only [List.append_nil] at hW'
  have hlt : ∀ z ∈ p0 ++ p2, z.block < W.heap.size := fun z hz => hW'.lt z (by simpa using hz)
  have bmiles := u32_range wmiles
  have bday := u16_range wday
  refine (law_PitRuns_ok 1300 (allH_has W) w hw ⟨miles⟩ words hwords ⟨day⟩ (pitRuns_law 1300 w ⟨miles⟩ words ⟨day⟩ (by decide) wakes1300 bmiles bday (fun x hx => u16_range (rwords x hx)))).mono fun e W' ⟨v, h', he, hb, _, _, hv⟩ => ?_
  subst he hv
  have harg0 : DataW.Trod enc Try.prog W' 0 (fun b => decide (b < W.heap.size)) true 48 (.agg cw.toArray) d0 p0 :=
    Below.trod tryLaidOut (by kernel_rfl) (of_decide_eq_true (by kernel_rfl)) h0 hb (fun z hz => hlt z (by simp [hz]))
  have harg2 : DataW.Trod enc Try.prog W' 0 (fun b => decide (b < W.heap.size)) true 61 (.slice awords words.length cwords) d2 p2 :=
    Below.trod tryLaidOut (by kernel_rfl) (of_decide_eq_true (by kernel_rfl)) h2 hb (fun z hz => hlt z (by simp [hz]))
  refine ⟨_, rfl, _, _, _, [], p0 ++ p2, [], hW', ?_, ?_, rfl, hb.frame _, fun h => by cases h⟩
  · exact trodAll_mk1 (shut_bool Try.underlying4 _)
  · exact ⟨p0, p2, harg0, ⟨[], p2, shut_int Try.underlying25 wmiles, ⟨p2, [], harg2, ⟨[], [], shut_int Try.underlying62 wday, rfl, by simp⟩, by simp⟩, by simp⟩, by simp⟩
theorem pitRuns_holds : Rows.PitRunsSaid :=
  OpenClaim.holds_of_wide 7 Try.f7 rfl rfl rfl rfl rfl rfl rfl ⟨rfl, rfl, rfl, rfl, rfl⟩ rfl rfl rfl rfl rfl (by kernel_rfl) Try.func7 (by kernel_rfl)
    (of_decide_eq_true (by kernel_rfl)) (by unfold Func.isWrapper; rw [if_neg (of_decide_eq_false (by kernel_rfl))]; exact ⟨rfl, rfl⟩)
    (fun os started H enc _ => pitRuns_lifted os started H enc)
end Go.Proofs.Ytkbphdjemgibnaa
