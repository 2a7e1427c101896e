/- ControlSpare, for every input. -/
import Derived.Test.YtokchpjijlebiaaSpP0
import Derived.Test.YtokchpjijlebiaaSpS5
import Derived.Test.YtokchpjijlebiaaRows
import Derived.ProofKit
import Derived.Test.YtokchpjijlebiaaSpWF1
import Derived.Test.YtokchpjijlebiaaSpL0
set_option linter.all false
namespace Go.Proofs.Ytokchpjijlebiaa
open Go Go.RowKit Go.ChangeShapes Go.WideShapes Go.ChangeAt
open Rep (rep)
theorem tryOwn : ownKnob Try.prog.godebug = none := by kernel_rfl
theorem tryLaidOut : laidOutB Try.prog = true := by kernel_rfl
theorem opRg : Opens Rg Try.prog 24 := Opens.struct (fun x => (x.lo, x.hi)) (fun y => ⟨y.1, y.2⟩) (fun _ => rfl) (fun _ _ _ h => h) Try.underlying24 (by kernel_rfl)
  (OpensF.cons (Opens.int Try.underlying3) rfl (by kernel_rfl) (OpensF.one (Opens.int Try.underlying3) rfl (by kernel_rfl)))
theorem opBus : Opens Bus Try.prog 63 := Opens.struct (fun x => (x.stop, x.tm)) (fun y => ⟨y.1, y.2⟩) (fun _ => rfl) (fun _ _ _ h => h) Try.underlying63 (by kernel_rfl)
  (OpensF.cons (Opens.int Try.underlying3) rfl (by kernel_rfl) (OpensF.one opRg rfl (by kernel_rfl)))
theorem opSpare : Opens Spare Try.prog 61 := Opens.struct (fun x => (x.stop, x.tm)) (fun y => ⟨y.1, y.2⟩) (fun _ => rfl) (fun _ _ _ h => h) Try.underlying61 (by kernel_rfl)
  (OpensF.cons (Opens.int Try.underlying3) rfl (by kernel_rfl) (OpensF.one (Opens.int Try.underlying3) rfl (by kernel_rfl)))
theorem opRoute : Opens Route Try.prog 28 := Opens.struct (fun x => (x.legs, x.turn, x.buses, x.spares, x.unit, x.gap, x.fr, x.to_)) (fun y => ⟨y.1, y.2.1, y.2.2.1, y.2.2.2.1, y.2.2.2.2.1, y.2.2.2.2.2.1, y.2.2.2.2.2.2.1, y.2.2.2.2.2.2.2⟩) (fun _ => rfl) (fun _ _ _ h => h) Try.underlying28 (by kernel_rfl)
  (OpensF.cons (Opens.slice Try.underlying22 opRg (by kernel_rfl) (by decide)) rfl (by kernel_rfl)
  (OpensF.cons opRg rfl (by kernel_rfl)
  (OpensF.cons (Opens.slice Try.underlying25 opBus (by kernel_rfl) (by decide)) rfl (by kernel_rfl)
  (OpensF.cons (Opens.slice Try.underlying26 opSpare (by kernel_rfl) (by decide)) rfl (by kernel_rfl)
  (OpensF.cons (Opens.int Try.underlying3) rfl (by kernel_rfl)
  (OpensF.cons (Opens.int Try.underlying3) rfl (by kernel_rfl)
  (OpensF.cons (Opens.int Try.underlying3) rfl (by kernel_rfl)
  (OpensF.one (Opens.int Try.underlying3) rfl (by kernel_rfl)))))))))
theorem opActs : Opens Acts Try.prog 50 := Opens.struct (fun x => (x.holds, x.turns, x.spares)) (fun y => ⟨y.1, y.2.1, y.2.2⟩) (fun _ => rfl) (fun _ _ _ h => h) Try.underlying50 (by kernel_rfl)
  (OpensF.cons (Opens.slice Try.underlying31 (Opens.int Try.underlying3) (by kernel_rfl) (by decide)) rfl (by kernel_rfl)
  (OpensF.cons (Opens.slice Try.underlying31 (Opens.int Try.underlying3) (by kernel_rfl) (by decide)) rfl (by kernel_rfl)
  (OpensF.one (Opens.slice Try.underlying32 (Opens.bool Try.underlying4) (by kernel_rfl) (by decide)) rfl (by kernel_rfl))))
theorem open_arg {H : Type} {α : Type} [Rep α] {enc : TypeId × Value → H} {P : Program} {T : TypeId} {fs : Array Field} (ho : Opens α P T) (ht : P.underlying T = some (.struct fs)) {W : World} {base : Nat} {spare : Nat → Bool} {held : Bool} {r : Reach} {b0 : Nat} {v : Value} {d : DataW H} {ps : List MemPlace}
    (hval : Value.okWide P W r b0 T v) (hd : DataW.Trod enc P W base spare held T v d ps) : ∃ (y : α) (cs : List Value), v = .agg cs.toArray ∧ rep (allH W) y cs := by
  unfold Value.okWide at hval
  rw [ht] at hval
  obtain ⟨cs, rfl, _, _⟩ := hval
  obtain ⟨fuel, hf⟩ := hd
  obtain ⟨y, hy⟩ := ho.of _ _ _ _ _ _ _ _ hf
  exact ⟨y, cs.toList, by simp, by simpa [Value.cells] using hy⟩
end Go.Proofs.Ytokchpjijlebiaa
namespace Go.Proofs.Ytokchpjijlebiaa
open Go Go.RowKit Go.ChangeShapes Go.WideShapes Go.ChangeAt
open Rep (rep)
theorem awake200 : law_awake 200 = some true := by kernel_rfl
theorem u8_range {n : Int} (h : (Lit.int .u8 n).wf = true) : 0 ≤ n ∧ n ≤ 255 := by
  simpa [Lit.wf, IntKind.min, IntKind.max, IntKind.bits, IntKind.signed] using h
set_option maxHeartbeats 800000 in
set_option maxRecDepth 100000 in
theorem controlSpare_lifted (os : Os) (started : os.Started) (H : Type) (enc : TypeId × Value → H) :
    ReturnsInHanded {} Try.checked os 5 .any (Rows.controlSpareSpec.pre6 enc Try.prog Try.f5 Rows.controlSpareRow.domain false) (Rows.controlSpareSpec.post enc Try.prog Try.f5 false true false false) := by
  refine returnsInHanded_of_change (C := Try.checked) tryOwn started (by kernel_rfl) Try.func5
    (ChangeSpec.witness6 (enc := enc) (C := Try.checked) false ⟨#[], #[.agg #[.slice none 0 0, .int .i64 0, .int .i64 0, .slice none 0 0, .slice none 0 0, .int .i64 0, .int .i64 0, .int .i64 0, .int .i64 0], .agg #[.slice none 0 0, .slice none 0 0, .slice none 0 0], .agg #[.int .i64 0, .int .i64 0], .int .u8 0, .int .u8 0], []⟩ 8 (by kernel_rfl) (by kernel_rfl) (by kernel_rfl) (by kernel_rfl)) ?_
  intro W base args ds gs before hval0 hW _ _
  have hval : ∀ (j : Nat) t v, Try.f5.params[j]? = some t → args[j]? = some v → Value.okWide Try.prog W .any base t v := hval0
  have hW' := hW
  obtain ⟨p, q, hA0, hV, rfl, _, _⟩ := hW
  have hA : DataW.TrodAll enc Try.prog W 0 (fun _ => true) true Try.f5.params.toList args.toList ds p := hA0
  rw [Try.params5] at hA hval
  obtain ⟨v0, vs0, d0, ds0, p0, q0, ha0, rfl, rfl, h0, hA⟩ := trodAll_cons hA
  obtain ⟨v1, vs1, d1, ds1, p1, q1, rfl, rfl, rfl, h1, hA⟩ := trodAll_cons hA
  obtain ⟨v2, vs2, d2, ds2, p2, q2, rfl, rfl, rfl, h2, hA⟩ := trodAll_cons hA
  obtain ⟨v3, vs3, d3, ds3, p3, q3, rfl, rfl, rfl, h3, hA⟩ := trodAll_cons hA
  obtain ⟨v4, vs4, d4, ds4, p4, q4, rfl, rfl, rfl, h4, hA⟩ := trodAll_cons hA
  obtain ⟨rfl, rfl, rfl⟩ := trodAll_nil hA
  obtain rfl : args = #[v0, v1, v2, v3, v4] := by cases args; simp_all
  obtain ⟨rfl, rfl⟩ := trodVars_none hV
  obtain ⟨r, cr, rfl, hr⟩ := open_arg opRoute Try.underlying28 (hval 0 28 v0 rfl rfl) h0
  obtain ⟨a, ca, rfl, ha⟩ := open_arg opActs Try.underlying50 (hval 1 50 v1 rfl rfl) h1
  obtain ⟨s, cs, rfl, hs⟩ := open_arg opSpare Try.underlying61 (hval 2 61 v2 rfl rfl) h2
  obtain ⟨k1, rfl, rfl, rfl, wk1⟩ := open_int Try.underlying5 (hval 3 5 v3 rfl rfl) h3
  obtain ⟨k2, rfl, rfl, rfl, wk2⟩ := open_int Try.underlying5 (hval 4 5 v4 rfl rfl) h4
  clear hA0 hval0
  simp only [List.append_nil] at hW'
  have hlt : ∀ z ∈ p0 ++ p1 ++ p2, z.block < W.heap.size := fun z hz => hW'.lt z (by simpa using hz)
  have bk1 := u8_range wk1
  have bk2 := u8_range wk2
  refine (law_ControlSpare_ok 200 (allH_has W) r hr a ha s hs ⟨k1⟩ ⟨k2⟩ (controlSpare_law 200 (by decide) (by decide) awake200 r a s ⟨k1⟩ ⟨k2⟩ bk1 bk2)).mono fun e W' ⟨v, h', he, hb, _, _, hv⟩ => ?_
  subst he hv
  have harg0 : DataW.Trod enc Try.prog W' 0 (fun b => decide (b < W.heap.size)) true 28 (.agg cr.toArray) d0 p0 :=
    Below.trod tryLaidOut (by kernel_rfl) (of_decide_eq_true (by kernel_rfl)) h0 hb (fun z hz => hlt z (by simp [hz]))
  have harg1 : DataW.Trod enc Try.prog W' 0 (fun b => decide (b < W.heap.size)) true 50 (.agg ca.toArray) d1 p1 :=
    Below.trod tryLaidOut (by kernel_rfl) (of_decide_eq_true (by kernel_rfl)) h1 hb (fun z hz => hlt z (by simp [hz]))
  have harg2 : DataW.Trod enc Try.prog W' 0 (fun b => decide (b < W.heap.size)) true 61 (.agg cs.toArray) d2 p2 :=
    Below.trod tryLaidOut (by kernel_rfl) (of_decide_eq_true (by kernel_rfl)) h2 hb (fun z hz => hlt z (by simp [hz]))
  refine ⟨_, rfl, _, _, _, [], p0 ++ (p1 ++ p2), [], hW', ?_, ?_, rfl, hb.frame _, fun h => by cases h⟩
  · exact trodAll_mk1 (shut_bool Try.underlying4 _)
  · exact ⟨p0, p1 ++ p2, harg0, ⟨p1, p2, harg1, ⟨p2, [], harg2, ⟨[], [], shut_int Try.underlying5 wk1, ⟨[], [], shut_int Try.underlying5 wk2, rfl, by simp⟩, by simp⟩, by simp⟩, by simp⟩, by simp⟩
theorem controlSpare_holds : Rows.ControlSpareSaid :=
  OpenClaim.holds_of_wide 5 Try.f5 rfl rfl rfl rfl rfl rfl rfl ⟨rfl, rfl, rfl, rfl, rfl⟩ rfl rfl rfl rfl rfl (by kernel_rfl) Try.func5 (by kernel_rfl)
    (of_decide_eq_true (by kernel_rfl)) (by unfold Func.isWrapper; rw [if_neg (of_decide_eq_false (by kernel_rfl))]; exact ⟨rfl, rfl⟩)
    (fun os started H enc _ => controlSpare_lifted os started H enc)
end Go.Proofs.Ytokchpjijlebiaa
