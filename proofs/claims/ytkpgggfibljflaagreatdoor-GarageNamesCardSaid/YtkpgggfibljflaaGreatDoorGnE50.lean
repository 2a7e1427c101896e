/- GarageNames, for every input. -/
import Derived.Test.YtkpgggfibljflaaGreatDoorGnE01
import Derived.Test.YtkpgggfibljflaaGreatDoorGnL00
set_option linter.all false
set_option maxRecDepth 100000
namespace Go.Proofs.YtkpgggfibljflaaGreatDoor
open Go Go.RowKit Go.ChangeShapes Go.WideShapes Go.ChangeAt Go.Proofs Go.Proofs.YtkpgggfibljflaaGreatDoor
theorem garageNames_r (n : Nat)  : (flaw_GarageNames_law n [] 0 []).runK some = (flaw_GarageNames n ).bind fun y => some ⟨false, .bool y.1, [], 0⟩ := by kernel_rfl
set_option maxHeartbeats 800000 in
theorem garageNames_lifted (os : Os) (started : os.Started) (H : Type) (enc : TypeId × Value → H) :
    ReturnsInHanded {} Tryz.checked os 18 .any (fun w args => (Rows.garageNamesSpec.pre enc Tryz.prog Tryz.f18 Rows.garageNamesRow.domain false w args ∧ laidMetH Tryz.prog Rows.garageNamesRow.laid w) ∧ sizedMet enc Tryz.prog Tryz.f18 (OpenSpec.ofChange Rows.garageNamesSpec) false w args) (Rows.garageNamesSpec.post enc Tryz.prog Tryz.f18 false true false false) := by
  refine returnsIn_shaped (C := Tryz.checked) (X := fun w _ => laidMetH Tryz.prog laidG w) (fun _ _ _ hh h => h.of_heap hh) tryOwn started (by kernel_rfl) Tryz.func18
    (ChangeSpec.witness_shaped (enc := enc) (C := Tryz.checked) (os := os) (X := fun w _ => laidMetH Tryz.prog laidG w) false (World.laidAll Tryz.prog os laidG) #[] 8 (World.laidAll_os _ _ _) (World.shaped_of_ZipB (by kernel_rfl) (by kernel_rfl)) (by kernel_rfl) (by kernel_rfl) (by kernel_rfl) (by rw [MakeChecks.laidMetH_plain _ _ _ (by kernel_rfl)]; exact laidMet_laidAll _ (by kernel_rfl) (by kernel_rfl))) ?_
  intro W base args ds gs before hval0 hW hz0 hL hsh
  have hval : ∀ (j : Nat) t v, Tryz.f18.params[j]? = some t → args[j]? = some v → Value.okWide Tryz.prog W .any base t v := hval0
  have hW' := hW
  obtain ⟨p, q, hA0, hV, rfl, _, _⟩ := hW
  have hA : DataW.TrodAll enc Tryz.prog W 0 (fun _ => true) true Tryz.f18.params.toList args.toList ds p := hA0
  have hz : (DataW.weightsEach Tryz.prog (Tryz.f18.params.toList ++ Rows.garageNamesSpec.plain.varTypes Tryz.prog) (ds ++ gs)).all (· ≤ reachBytes) = true := hz0
  rw [Tryz.params18] at hA hval hz
  obtain ⟨ha0, rfl, rfl⟩ := trodAll_nil hA
  obtain rfl : args = #[] := by cases args; simp_all
  obtain ⟨rfl, rfl⟩ := trodVars_none hV
  clear hA0 hval0 hz hz0
  simp only [List.append_nil] at hW'
  refine (call_true (flaw_GarageNames_lawOk (2000)) (by decide) (glP_of hL hsh) ((garageNames_r (2000) ).trans (by rw [names_law]; rfl)) (by kernel_rfl) (vals := []) ?_).mono fun e W' ⟨he, hb⟩ => ?_
  · exact endNil
  subst he
  refine ⟨_, rfl, _, _, _, [], [], [], hW', ?_, ?_, rfl, hb.frame _, fun h => by cases h⟩
  · exact trodAll_mk1 (shut_bool Tryz.underlying4 _)
  · exact rfl
theorem garageNames_k0 : (Rows.garageNamesRow.wf (OpenSpec.ofChange Rows.garageNamesSpec)) = true := by kernel_rfl
theorem garageNames_k3 : (Tryz.f18.params.all (Tryz.prog.readableRec ·)) = true := by kernel_rfl
theorem garageNames_k4 : (namedTie Tryz.prog Rows.garageNamesRow.named Rows.garageNamesSpec.vars) = true := by kernel_rfl
theorem garageNames_k5 : ((Rows.garageNamesRow.stops == [])) = true := by kernel_rfl
theorem garageNames_k7 : ((Rows.garageNamesRow.knobs == [])) = true := by kernel_rfl
theorem garageNames_k9 : ((Rows.garageNamesRow.inPlace == Tryz.prog.inPlace 18)) = true := by kernel_rfl
theorem garageNames_k10 : ((Rows.garageNamesRow.unfollowed == Tryz.prog.unfollowed 18)) = true := by kernel_rfl
theorem garageNames_k11 : ((Rows.garageNamesRow.recurses == Tryz.prog.recurses 18)) = true := by kernel_rfl
theorem garageNames_k12 : ((Rows.garageNamesRow.named == Tryz.prog.varsNamed 18)) = true := by kernel_rfl
theorem garageNames_k13 : ((Rows.garageNamesRow.maps == (Tryz.f18.params.toList ++ Rows.garageNamesSpec.plain.varTypes Tryz.prog).any (Tryz.prog.mapsRec ·))) = true := by kernel_rfl
theorem garageNames_k14 : ((Rows.garageNamesRow.ifaces == (Tryz.f18.params.toList ++ Rows.garageNamesSpec.plain.varTypes Tryz.prog).any (Tryz.prog.ifacesRec ·))) = true := by kernel_rfl
theorem garageNames_k15 : ((Rows.garageNamesRow.mapsOut == Tryz.prog.mapsAmong Tryz.f18.resultTypes.toList)) = true := by kernel_rfl
theorem garageNames_k16 : ((Rows.garageNamesRow.loops == (Tryz.f18.params.toList ++ Rows.garageNamesSpec.plain.varTypes Tryz.prog).any (Tryz.prog.loopsFrom ·))) = true := by kernel_rfl
theorem garageNames_k17 : ((Rows.garageNamesRow.wideKeys == (Tryz.f18.params.toList ++ Rows.garageNamesSpec.plain.varTypes Tryz.prog ++ Tryz.f18.resultTypes.toList).any (Tryz.prog.wideKeysFrom ·))) = true := by kernel_rfl
theorem garageNames_k18 : (Rows.garageNamesSpec.vars.all (Tryz.prog.varReadable ·)) = true := by kernel_rfl
theorem garageNames_k19 : (Tryz.f18.resultTypes.all (fun t => Tryz.prog.readableRec t && decide (t < Tryz.prog.types.size))) = true := by kernel_rfl
theorem garageNames_k20 : ((Rows.garageNamesRow.ifacesOut == Tryz.f18.resultTypes.toList.any (Tryz.prog.ifacesRec ·))) = true := by kernel_rfl
theorem garageNames_k21 : ((Rows.garageNamesRow.loopsOut == Tryz.f18.resultTypes.toList.any (Tryz.prog.loopsFrom ·))) = true := by kernel_rfl
theorem garageNames_k23 : (Rows.garageNamesRow.shortTexts.isNone) = true := by kernel_rfl
theorem garageNames_k28 : ((Rows.garageNamesRow.kinds == (if Rows.garageNamesRow.domain.isEmpty then [] else Tryz.f18.params.toList.map fun t => match Tryz.prog.underlying t with | some (.int k) => some k | _ => none))) = true := by kernel_rfl
theorem garageNames_k29 : ((Rows.garageNamesRow.pinned == Rows.garageNamesRow.pinnedBy)) = true := by kernel_rfl
theorem garageNames_k30 : ((Rows.garageNamesRow.veiled == (Tryz.f18.params.toList ++ Rows.garageNamesSpec.plain.varTypes Tryz.prog ++ Tryz.f18.resultTypes.toList).any (Tryz.prog.veiledRec ·))) = true := by kernel_rfl
theorem garageNames_k31 : (Rows.garageNamesRow.veiledFits Tryz.prog Tryz.f18.params.toList (Tryz.f18.params.toList ++ Rows.garageNamesSpec.plain.varTypes Tryz.prog ++ Tryz.f18.resultTypes.toList)) = true := by kernel_rfl
theorem garageNames_closed : joinedFacts Tryz.prog 18 Tryz.f18 Rows.garageNamesSpec Rows.garageNamesRow = true := by
  unfold joinedFacts
  exact and_ok (and_ok (and_ok (and_ok (and_ok (and_ok (and_ok (and_ok (and_ok (and_ok (and_ok (and_ok (and_ok (and_ok (and_ok (and_ok (and_ok (and_ok (and_ok (and_ok (and_ok (and_ok (and_ok (and_ok (and_ok (and_ok (and_ok (and_ok (and_ok (and_ok (and_ok (garageNames_k0) tryLaidOut) pg_maps) garageNames_k3) garageNames_k4) garageNames_k5) pg_stops) garageNames_k7) pg_knobs) garageNames_k9) garageNames_k10) garageNames_k11) garageNames_k12) garageNames_k13) garageNames_k14) garageNames_k15) garageNames_k16) garageNames_k17) garageNames_k18) garageNames_k19) garageNames_k20) garageNames_k21) pg_plain) garageNames_k23) pg_heard) pg_enter) pg_lifts) pg_make) garageNames_k28) garageNames_k29) garageNames_k30) garageNames_k31
theorem garageNames_goes : false = Rows.garageNamesRow.goesBy Tryz.prog := by kernel_rfl
theorem garageNames_wf : Rows.garageNamesRow.wfByText (OpenSpec.ofChange Rows.garageNamesSpec) = true := by kernel_rfl
theorem garageNames_named : Tryz.prog.funcNamed "layover/layoverlaw12.GarageNames" = some 18 := by kernel_rfl
theorem garageNames_stand : ([].all fun u => !Tryz.prog.wantsStandIn u) = true := by kernel_rfl
theorem garageNames_row : Rows.GarageNamesSaid :=
  OpenClaim.holds_of_wide 18 Tryz.f18 rfl rfl rfl rfl rfl rfl rfl ⟨rfl, rfl, rfl, rfl, rfl⟩ rfl rfl rfl rfl rfl garageNames_named Tryz.func18 garageNames_closed
    (of_decide_eq_true (by kernel_rfl)) (by unfold Func.isWrapper; rw [if_neg (of_decide_eq_false (by kernel_rfl))]; exact ⟨rfl, rfl⟩)
    (fun os started H enc _ => garageNames_lifted os started H enc)
theorem garageNames_holds : Rows.GarageNamesCardSaid :=
  Claim7.holds_tied_plain_at .later [] Rows.garageNamesCard.laidKinds true Rows.garageNamesCard.stood.harness true
    garageNames_row (fun _ h => by cases h) garageNames_wf (fun _ h => by cases h) garageNames_row_tie rfl ⟨rfl, rfl⟩ pg_main rfl
    (fun f fn hf hfn => by
      obtain rfl : f = 18 := Option.some.inj (garageNames_named.symm.trans hf) |>.symm
      obtain rfl : fn = Tryz.f18 := (Option.some.inj (Tryz.func18.symm.trans hfn)).symm
      exact ⟨pg_looks, fun j t ht => by
        rw [Tryz.params18] at ht
        have hm : t ∈ [] := by simpa using Array.mem_of_getElem? ht
        exact (show Tryz.prog.wantsStandIn t = false by simpa using List.all_eq_true.1 garageNames_stand t hm)⟩)
    garageNames_goes
end Go.Proofs.YtkpgggfibljflaaGreatDoor
