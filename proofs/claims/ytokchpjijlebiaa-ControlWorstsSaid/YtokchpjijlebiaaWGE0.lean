/- ControlWorsts, for every input. -/
import Derived.Test.YtokchpjijlebiaaWGP0
import Derived.Test.YtokchpjijlebiaaWGS6
import Derived.Test.YtokchpjijlebiaaRows
import Derived.ProofKit
import Derived.Test.YtokchpjijlebiaaWGWL1
import Derived.Test.YtokchpjijlebiaaWGL0
set_option linter.all false
namespace Go.Proofs.Ytokchpjijlebiaa
open Go Go.RowKit Go.ChangeShapes Go.WideShapes Go.ChangeAt
open Rep (rep)
theorem SM : ownKnob Try.prog.godebug = none := by kernel_rfl
theorem Mr : laidOutB Try.prog = true := by kernel_rfl
theorem SN : BK Rg Try.prog 24 := BK.struct (fun x => (x.lo, x.hi)) (fun y => ⟨y.1, y.2⟩) (fun _ => rfl) (fun _ _ _ h => h) Try.underlying24 (by kernel_rfl)
  (CI.cons (BK.int Try.underlying3) rfl (by kernel_rfl) (CI.one (BK.int Try.underlying3) rfl (by kernel_rfl)))
theorem Tf : BK CG Try.prog 63 := BK.struct (fun x => (x.stop, x.tm)) (fun y => ⟨y.1, y.2⟩) (fun _ => rfl) (fun _ _ _ h => h) Try.underlying63 (by kernel_rfl)
  (CI.cons (BK.int Try.underlying3) rfl (by kernel_rfl) (CI.one SN rfl (by kernel_rfl)))
theorem Sq : BK AG Try.prog 61 := BK.struct (fun x => (x.stop, x.tm)) (fun y => ⟨y.1, y.2⟩) (fun _ => rfl) (fun _ _ _ h => h) Try.underlying61 (by kernel_rfl)
  (CI.cons (BK.int Try.underlying3) rfl (by kernel_rfl) (CI.one (BK.int Try.underlying3) rfl (by kernel_rfl)))
theorem Sr : BK Af Try.prog 28 := BK.struct (fun x => (x.legs, x.turn, x.buses, x.spares, x.unit, x.gap, x.fr, x.to_)) (fun y => ⟨y.1, y.2.1, y.2.2.1, y.2.2.2.1, y.2.2.2.2.1, y.2.2.2.2.2.1, y.2.2.2.2.2.2.1, y.2.2.2.2.2.2.2⟩) (fun _ => rfl) (fun _ _ _ h => h) Try.underlying28 (by kernel_rfl)
  (CI.cons (BK.slice Try.underlying22 SN (by kernel_rfl) (by decide)) rfl (by kernel_rfl)
  (CI.cons SN rfl (by kernel_rfl)
  (CI.cons (BK.slice Try.underlying25 Tf (by kernel_rfl) (by decide)) rfl (by kernel_rfl)
  (CI.cons (BK.slice Try.underlying26 Sq (by kernel_rfl) (by decide)) rfl (by kernel_rfl)
  (CI.cons (BK.int Try.underlying3) rfl (by kernel_rfl)
  (CI.cons (BK.int Try.underlying3) rfl (by kernel_rfl)
  (CI.cons (BK.int Try.underlying3) rfl (by kernel_rfl)
  (CI.one (BK.int Try.underlying3) rfl (by kernel_rfl)))))))))
theorem SO : BK Ao Try.prog 50 := BK.struct (fun x => (x.holds, x.turns, x.spares)) (fun y => ⟨y.1, y.2.1, y.2.2⟩) (fun _ => rfl) (fun _ _ _ h => h) Try.underlying50 (by kernel_rfl)
  (CI.cons (BK.slice Try.underlying31 (BK.int Try.underlying3) (by kernel_rfl) (by decide)) rfl (by kernel_rfl)
  (CI.cons (BK.slice Try.underlying31 (BK.int Try.underlying3) (by kernel_rfl) (by decide)) rfl (by kernel_rfl)
  (CI.one (BK.slice Try.underlying32 (BK.bool Try.underlying4) (by kernel_rfl) (by decide)) rfl (by kernel_rfl))))
theorem OX {H : Type} {α : Type} [Rep α] {enc : TypeId × Value → H} {P : Program} {T : TypeId} {fs : Array Field} (ho : BK α P T) (ht : P.underlying T = some (.struct fs)) {W : World} {base : Nat} {spare : Nat → Bool} {held : Bool} {r : Reach} {b0 : Nat} {v : Value} {d : DataW H} {ps : List MemPlace}
    (hval : Value.okWide P W r b0 T v) (hd : DataW.Trod enc P W base spare held T v d ps) : ∃ (y : α) (cs : List Value), v = .agg cs.toArray ∧ rep (Q3 W) y cs := by
  unfold Value.okWide at hval
  rw [ht] at hval
  obtain ⟨cs, rfl, _, _⟩ := hval
  obtain ⟨fuel, hf⟩ := hd
  obtain ⟨y, hy⟩ := ho.of _ _ _ _ _ _ _ _ hf
  exact ⟨y, cs.toList, by simp, by simpa [Value.cells] using hy⟩
end Go.Proofs.Ytokchpjijlebiaa
namespace Go.Proofs.Ytokchpjijlebiaa
open Go Go.RowKit Go.ChangeShapes Go.WideShapes Go.ChangeAt
open Rep (rep)
theorem Rv : DN 300 = some true := by kernel_rfl
set_option maxHeartbeats 800000 in
set_option maxRecDepth 100000 in
theorem Iy (os : Os) (started : os.Started) (H : Type) (enc : TypeId × Value → H) :
    ReturnsInHanded {} Try.checked os 9 .any (Rows.controlWorstsSpec.pre6 enc Try.prog Try.f9 Rows.controlWorstsRow.domain false) (Rows.controlWorstsSpec.post enc Try.prog Try.f9 false true false false) := by
  refine returnsInHanded_of_change (C := Try.checked) SM started (by kernel_rfl) Try.func9
    (ChangeSpec.witness6 (enc := enc) (C := Try.checked) false ⟨#[], #[.agg #[.slice none 0 0, .int .i64 0, .int .i64 0, .slice none 0 0, .slice none 0 0, .int .i64 0, .int .i64 0, .int .i64 0, .int .i64 0], .agg #[.slice none 0 0, .slice none 0 0, .slice none 0 0], .int .i64 0], []⟩ 8 (by kernel_rfl) (by kernel_rfl) (by kernel_rfl) (by kernel_rfl)) ?_
  intro W base args ds gs before hval0 hW _ _
  have hval : ∀ (j : Nat) t v, Try.f9.params[j]? = some t → args[j]? = some v → Value.okWide Try.prog W .any base t v := hval0
  have hW' := hW
  obtain ⟨p, q, hA0, hV, rfl, _, _⟩ := hW
  have hA : DataW.TrodAll enc Try.prog W 0 (fun _ => true) true Try.f9.params.toList args.toList ds p := hA0
  rw [Try.params9] at hA hval
  obtain ⟨v0, vs0, d0, ds0, p0, q0, ha0, rfl, rfl, h0, hA⟩ := trodAll_cons hA
  obtain ⟨v1, vs1, d1, ds1, p1, q1, rfl, rfl, rfl, h1, hA⟩ := trodAll_cons hA
  obtain ⟨v2, vs2, d2, ds2, p2, q2, rfl, rfl, rfl, h2, hA⟩ := trodAll_cons hA
  obtain ⟨rfl, rfl, rfl⟩ := trodAll_nil hA
  obtain rfl : args = #[v0, v1, v2] := by cases args; simp_all
  obtain ⟨rfl, rfl⟩ := trodVars_none hV
  obtain ⟨r, cr, rfl, hr⟩ := OX Sr Try.underlying28 (hval 0 28 v0 rfl rfl) h0
  obtain ⟨a, ca, rfl, ha⟩ := OX SO Try.underlying50 (hval 1 50 v1 rfl rfl) h1
  obtain ⟨stop, rfl, rfl, rfl, wstop⟩ := open_int Try.underlying3 (hval 2 3 v2 rfl rfl) h2
  clear hA0 hval0
  simp only [List.append_nil] at hW'
  have hlt : ∀ z ∈ p0 ++ p1, z.block < W.heap.size := fun z hz => hW'.lt z (by simpa using hz)
  refine (Ji 300 (RR W) r hr a ha stop (Kx 300 (by decide) (by decide) Rv r a stop)).mono fun e W' ⟨v, h', he, hb, _, _, hv⟩ => ?_
  obtain ⟨_, rfl, hv⟩ := hv
  subst he hv
  have harg0 : DataW.Trod enc Try.prog W' 0 (fun b => decide (b < W.heap.size)) true 28 (.agg cr.toArray) d0 p0 :=
    Below.trod Mr (by kernel_rfl) (of_decide_eq_true (by kernel_rfl)) h0 hb (fun z hz => hlt z (by simp [hz]))
  have harg1 : DataW.Trod enc Try.prog W' 0 (fun b => decide (b < W.heap.size)) true 50 (.agg ca.toArray) d1 p1 :=
    Below.trod Mr (by kernel_rfl) (of_decide_eq_true (by kernel_rfl)) h1 hb (fun z hz => hlt z (by simp [hz]))
  refine ⟨_, rfl, _, _, _, [], p0 ++ p1, [], hW', ?_, ?_, rfl, hb.frame _, fun h => by cases h⟩
  · exact trodAll_mk1 (shut_bool Try.underlying4 _)
  · exact ⟨p0, p1, harg0, ⟨p1, [], harg1, ⟨[], [], shut_int Try.underlying3 wstop, rfl, by simp⟩, by simp⟩, by simp⟩
theorem controlWorsts_holds : Rows.ControlWorstsSaid :=
  OpenClaim.holds_of_wide 9 Try.f9 rfl rfl rfl rfl rfl rfl rfl ⟨rfl, rfl, rfl, rfl, rfl⟩ rfl rfl rfl rfl rfl (by kernel_rfl) Try.func9 (by kernel_rfl)
    (of_decide_eq_true (by kernel_rfl)) (by unfold Func.isWrapper; rw [if_neg (of_decide_eq_false (by kernel_rfl))]; exact ⟨rfl, rfl⟩)
    (fun os started H enc _ => Iy os started H enc)
end Go.Proofs.Ytokchpjijlebiaa
