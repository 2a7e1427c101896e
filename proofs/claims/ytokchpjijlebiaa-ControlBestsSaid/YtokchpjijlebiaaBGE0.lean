/- ControlBests, for every input. -/
import Derived.Test.YtokchpjijlebiaaBGP0
import Derived.Test.YtokchpjijlebiaaBGS5
import Derived.Test.YtokchpjijlebiaaRows
import Derived.ProofKit
import Derived.Test.YtokchpjijlebiaaBGWD1
import Derived.Test.YtokchpjijlebiaaBGL0
set_option linter.all false
namespace Go.Proofs.Ytokchpjijlebiaa
open Go Go.RowKit Go.ChangeShapes Go.WideShapes Go.ChangeAt
open Rep (rep)
theorem U5 : ownKnob Try.prog.godebug = none := by kernel_rfl
theorem Rx : laidOutB Try.prog = true := by kernel_rfl
theorem U6 : Ct Rg Try.prog 24 := Ct.struct (fun x => (x.lo, x.hi)) (fun y => ⟨y.1, y.2⟩) (fun _ => rfl) (fun _ _ _ h => h) Try.underlying24 (by kernel_rfl)
  (DC.cons (Ct.int Try.underlying3) rfl (by kernel_rfl) (DC.one (Ct.int Try.underlying3) rfl (by kernel_rfl)))
theorem UN : Ct Cy Try.prog 63 := Ct.struct (fun x => (x.stop, x.tm)) (fun y => ⟨y.1, y.2⟩) (fun _ => rfl) (fun _ _ _ h => h) Try.underlying63 (by kernel_rfl)
  (DC.cons (Ct.int Try.underlying3) rfl (by kernel_rfl) (DC.one U6 rfl (by kernel_rfl)))
theorem TY : Ct A7 Try.prog 61 := Ct.struct (fun x => (x.stop, x.tm)) (fun y => ⟨y.1, y.2⟩) (fun _ => rfl) (fun _ _ _ h => h) Try.underlying61 (by kernel_rfl)
  (DC.cons (Ct.int Try.underlying3) rfl (by kernel_rfl) (DC.one (Ct.int Try.underlying3) rfl (by kernel_rfl)))
theorem TZ : Ct Af Try.prog 28 := Ct.struct (fun x => (x.legs, x.turn, x.buses, x.spares, x.unit, x.gap, x.fr, x.to_)) (fun y => ⟨y.1, y.2.1, y.2.2.1, y.2.2.2.1, y.2.2.2.2.1, y.2.2.2.2.2.1, y.2.2.2.2.2.2.1, y.2.2.2.2.2.2.2⟩) (fun _ => rfl) (fun _ _ _ h => h) Try.underlying28 (by kernel_rfl)
  (DC.cons (Ct.slice Try.underlying22 U6 (by kernel_rfl) (by decide)) rfl (by kernel_rfl)
  (DC.cons U6 rfl (by kernel_rfl)
  (DC.cons (Ct.slice Try.underlying25 UN (by kernel_rfl) (by decide)) rfl (by kernel_rfl)
  (DC.cons (Ct.slice Try.underlying26 TY (by kernel_rfl) (by decide)) rfl (by kernel_rfl)
  (DC.cons (Ct.int Try.underlying3) rfl (by kernel_rfl)
  (DC.cons (Ct.int Try.underlying3) rfl (by kernel_rfl)
  (DC.cons (Ct.int Try.underlying3) rfl (by kernel_rfl)
  (DC.one (Ct.int Try.underlying3) rfl (by kernel_rfl)))))))))
theorem Tg {H : Type} {α : Type} [Rep α] {enc : TypeId × Value → H} {P : Program} {T : TypeId} {fs : Array Field} (ho : Ct α P T) (ht : P.underlying T = some (.struct fs)) {W : World} {base : Nat} {spare : Nat → Bool} {held : Bool} {r : Reach} {b0 : Nat} {v : Value} {d : DataW H} {ps : List MemPlace}
    (hval : Value.okWide P W r b0 T v) (hd : DataW.Trod enc P W base spare held T v d ps) : ∃ (y : α) (cs : List Value), v = .agg cs.toArray ∧ rep (RW W) y cs := by
  unfold Value.okWide at hval
  rw [ht] at hval
  obtain ⟨cs, rfl, _, _⟩ := hval
  obtain ⟨fuel, hf⟩ := hd
  obtain ⟨y, hy⟩ := ho.of _ _ _ _ _ _ _ _ hf
  exact ⟨y, cs.toList, by simp, by simpa [Value.cells] using hy⟩
end Go.Proofs.Ytokchpjijlebiaa
namespace Go.Proofs.Ytokchpjijlebiaa
open Go Go.RowKit Go.ChangeShapes Go.WideShapes Go.ChangeAt
open Rep (rep)
theorem Th : Fd 500 = some true := by kernel_rfl
set_option maxHeartbeats 800000 in
set_option maxRecDepth 100000 in
theorem Km (os : Os) (started : os.Started) (H : Type) (enc : TypeId × Value → H) :
    ReturnsInHanded {} Try.checked os 3 .any (Rows.controlBestsSpec.pre6 enc Try.prog Try.f3 Rows.controlBestsRow.domain false) (Rows.controlBestsSpec.post enc Try.prog Try.f3 false true false false) := by
  refine returnsInHanded_of_change (C := Try.checked) U5 started (by kernel_rfl) Try.func3
    (ChangeSpec.witness6 (enc := enc) (C := Try.checked) false ⟨#[], #[.agg #[.slice none 0 0, .int .i64 0, .int .i64 0, .slice none 0 0, .slice none 0 0, .int .i64 0, .int .i64 0, .int .i64 0, .int .i64 0]], []⟩ 8 (by kernel_rfl) (by kernel_rfl) (by kernel_rfl) (by kernel_rfl)) ?_
  intro W base args ds gs before hval0 hW _ _
  have hval : ∀ (j : Nat) t v, Try.f3.params[j]? = some t → args[j]? = some v → Value.okWide Try.prog W .any base t v := hval0
  have hW' := hW
  obtain ⟨p, q, hA0, hV, rfl, _, _⟩ := hW
  have hA : DataW.TrodAll enc Try.prog W 0 (fun _ => true) true Try.f3.params.toList args.toList ds p := hA0
  rw [Try.params3] at hA hval
  obtain ⟨v0, vs0, d0, ds0, p0, q0, ha0, rfl, rfl, h0, hA⟩ := trodAll_cons hA
  obtain ⟨rfl, rfl, rfl⟩ := trodAll_nil hA
  obtain rfl : args = #[v0] := by cases args; simp_all
  obtain ⟨rfl, rfl⟩ := trodVars_none hV
  obtain ⟨r, cr, rfl, hr⟩ := Tg TZ Try.underlying28 (hval 0 28 v0 rfl rfl) h0
  clear hA0 hval0
  simp only [List.append_nil] at hW'
  have hlt : ∀ z ∈ p0, z.block < W.heap.size := fun z hz => hW'.lt z (by simpa using hz)
  refine (Kq 500 (TH W) r hr (Mi 500 (by decide) (by decide) Th r)).mono fun e W' ⟨v, h', he, hb, _, _, hv⟩ => ?_
  subst he hv
  have harg0 : DataW.Trod enc Try.prog W' 0 (fun b => decide (b < W.heap.size)) true 28 (.agg cr.toArray) d0 p0 :=
    Below.trod Rx (by kernel_rfl) (of_decide_eq_true (by kernel_rfl)) h0 hb (fun z hz => hlt z hz)
  refine ⟨_, rfl, _, _, _, [], p0, [], hW', ?_, ?_, rfl, hb.frame _, fun h => by cases h⟩
  · exact trodAll_mk1 (shut_bool Try.underlying4 _)
  · exact ⟨p0, [], harg0, rfl, by simp⟩
theorem controlBests_holds : Rows.ControlBestsSaid :=
  OpenClaim.holds_of_wide 3 Try.f3 rfl rfl rfl rfl rfl rfl rfl ⟨rfl, rfl, rfl, rfl, rfl⟩ rfl rfl rfl rfl rfl (by kernel_rfl) Try.func3 (by kernel_rfl)
    (of_decide_eq_true (by kernel_rfl)) (by unfold Func.isWrapper; rw [if_neg (of_decide_eq_false (by kernel_rfl))]; exact ⟨rfl, rfl⟩)
    (fun os started H enc _ => Km os started H enc)
end Go.Proofs.Ytokchpjijlebiaa
