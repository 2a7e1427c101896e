/- GarageWrites, for every input. -/
import Derived.Test.YtkpgggfibljflaaGreatDoorGaE01
import Derived.Test.YtkpgggfibljflaaGreatDoorGaL02
set_option linter.all false
set_option maxRecDepth 100000
namespace Go.Proofs.YtkpgggfibljflaaGreatDoor
open Go Go.RowKit Go.ChangeShapes Go.WideShapes Go.ChangeAt Go.Proofs Go.Proofs.YtkpgggfibljflaaGreatDoor
theorem garageWrites_r (n : Nat) (lines : List ByteArray) (b : List (IK .u8)) : (flaw_GarageWrites_law n [.lst 9 lines, .lst 5 b] 0 []).runK some = (flaw_GarageWrites n lines b).bind fun y => some ⟨false, .bool y.1, [], 0⟩ := by kernel_rfl
set_option maxHeartbeats 800000 in
theorem garageWrites_lifted (os : Os) (started : os.Started) (H : Type) (enc : TypeId × Value → H) :
    ReturnsInHanded {} Tryz.checked os 10 .any (fun w args => (Rows.garageWritesSpec.pre enc Tryz.prog Tryz.f10 Rows.garageWritesRow.domain false w args ∧ laidMetH Tryz.prog Rows.garageWritesRow.laid w) ∧ sizedMet enc Tryz.prog Tryz.f10 (OpenSpec.ofChange Rows.garageWritesSpec) false w args) (Rows.garageWritesSpec.post enc Tryz.prog Tryz.f10 false true false false) := by
  refine returnsIn_shaped (C := Tryz.checked) (X := fun w _ => laidMetH Tryz.prog laidG w) (fun _ _ _ hh h => h.of_heap hh) tryOwn started (by kernel_rfl) Tryz.func10
    (ChangeSpec.witness_shaped (enc := enc) (C := Tryz.checked) (os := os) (X := fun w _ => laidMetH Tryz.prog laidG w) false (World.laidAll Tryz.prog os laidG) #[.slice none 0 0, .slice none 0 0] 8 (World.laidAll_os _ _ _) (World.shaped_of_ZipB (by kernel_rfl) (by kernel_rfl)) (by kernel_rfl) (by kernel_rfl) (by kernel_rfl) (by rw [MakeChecks.laidMetH_plain _ _ _ (by kernel_rfl)]; exact laidMet_laidAll _ (by kernel_rfl) (by kernel_rfl))) ?_
  intro W base args ds gs before hval0 hW hz0 hL hsh
  have hval : ∀ (j : Nat) t v, Tryz.f10.params[j]? = some t → args[j]? = some v → Value.okWide Tryz.prog W .any base t v := hval0
  have hW' := hW
  obtain ⟨p, q, hA0, hV, rfl, _, _⟩ := hW
  have hA : DataW.TrodAll enc Tryz.prog W 0 (fun _ => true) true Tryz.f10.params.toList args.toList ds p := hA0
  have hz : (DataW.weightsEach Tryz.prog (Tryz.f10.params.toList ++ Rows.garageWritesSpec.plain.varTypes Tryz.prog) (ds ++ gs)).all (· ≤ reachBytes) = true := hz0
  rw [Tryz.params10] at hA hval hz
  obtain ⟨v0, vs0, d0, ds0, p0, q0, ha0, rfl, rfl, h0, hA⟩ := trodAll_cons hA
  obtain ⟨v1, vs1, d1, ds1, p1, q1, rfl, rfl, rfl, h1, hA⟩ := trodAll_cons hA
  obtain ⟨rfl, rfl, rfl⟩ := trodAll_nil hA
  obtain rfl : args = #[v0, v1] := by cases args; simp_all
  obtain ⟨rfl, rfl⟩ := trodVars_none hV
  obtain ⟨lines, alines, clines, rfl, hlines, rlines⟩ := open_sl opStrs Tryz.underlying22 (hval 0 22 v0 rfl rfl) h0
  obtain ⟨b, ab, cb, rfl, hb, rb⟩ := open_sl opBytes Tryz.underlying78 (hval 1 78 v1 rfl rfl) h1
  have lenlines : lines.length ≤ 4000000000000000000 := by
    rcases sl_shape Tryz.underlying22 h0 with hn | ⟨es, rs, rfl, hl⟩
    · omega
    · have := sized_slice hz (j := 0) (t := 22) (e := 9) rfl rfl Tryz.underlying22
      rw [show Tryz.prog.bytesOf 9 = 16 by kernel_rfl, hl, show reachBytes = 140737488351232 from rfl] at this
      omega
  clear hA0 hval0 hz hz0
  simp only [List.append_nil] at hW'
  have hlt : ∀ z ∈ p0 ++ p1, z.block < W.heap.size := fun z hz => hW'.lt z (by simpa using hz)
  refine (call_true (flaw_GarageWrites_lawOk (lines.length + 700)) (by decide) (glP_of hL hsh) ((garageWrites_r (lines.length + 700) lines b).trans (by rw [writes_law (by omega) (by omega) (fun x hx => u8_range (rb x hx))]; rfl)) (by kernel_rfl) (vals := [.slice alines lines.length clines, .slice ab b.length cb]) ?_).mono fun e W' ⟨he, hb⟩ => ?_
  · exact (dens_lst hlines (dens_lst hb endNil))
  subst he
  have harg0 : DataW.Trod enc Tryz.prog W' 0 (fun b => decide (b < W.heap.size)) true 22 (.slice alines lines.length clines) d0 p0 :=
    Below.trod tryLaidOut (by kernel_rfl) (of_decide_eq_true (by kernel_rfl)) h0 hb (fun z hz => hlt z (by simp [hz]))
  have harg1 : DataW.Trod enc Tryz.prog W' 0 (fun b => decide (b < W.heap.size)) true 78 (.slice ab b.length cb) d1 p1 :=
    Below.trod tryLaidOut (by kernel_rfl) (of_decide_eq_true (by kernel_rfl)) h1 hb (fun z hz => hlt z (by simp [hz]))
  refine ⟨_, rfl, _, _, _, [], p0 ++ p1, [], hW', ?_, ?_, rfl, hb.frame _, fun h => by cases h⟩
  · exact trodAll_mk1 (shut_bool Tryz.underlying4 _)
  · exact ⟨p0, p1, harg0, ⟨p1, [], harg1, rfl, by simp⟩, by simp⟩
theorem garageWrites_k0 : (Rows.garageWritesRow.wf (OpenSpec.ofChange Rows.garageWritesSpec)) = true := by kernel_rfl
theorem garageWrites_k3 : (Tryz.f10.params.all (Tryz.prog.readableRec ·)) = true := by kernel_rfl
theorem garageWrites_k4 : (namedTie Tryz.prog Rows.garageWritesRow.named Rows.garageWritesSpec.vars) = true := by kernel_rfl
theorem garageWrites_k5 : ((Rows.garageWritesRow.stops == [])) = true := by kernel_rfl
theorem garageWrites_k7 : ((Rows.garageWritesRow.knobs == [])) = true := by kernel_rfl
theorem garageWrites_k9 : ((Rows.garageWritesRow.inPlace == Tryz.prog.inPlace 10)) = true := by kernel_rfl
theorem garageWrites_k10 : ((Rows.garageWritesRow.unfollowed == Tryz.prog.unfollowed 10)) = true := by kernel_rfl
theorem garageWrites_k11 : ((Rows.garageWritesRow.recurses == Tryz.prog.recurses 10)) = true := by kernel_rfl
theorem garageWrites_k12 : ((Rows.garageWritesRow.named == Tryz.prog.varsNamed 10)) = true := by kernel_rfl
theorem garageWrites_k13 : ((Rows.garageWritesRow.maps == (Tryz.f10.params.toList ++ Rows.garageWritesSpec.plain.varTypes Tryz.prog).any (Tryz.prog.mapsRec ·))) = true := by kernel_rfl
theorem garageWrites_k14 : ((Rows.garageWritesRow.ifaces == (Tryz.f10.params.toList ++ Rows.garageWritesSpec.plain.varTypes Tryz.prog).any (Tryz.prog.ifacesRec ·))) = true := by kernel_rfl
theorem garageWrites_k15 : ((Rows.garageWritesRow.mapsOut == Tryz.prog.mapsAmong Tryz.f10.resultTypes.toList)) = true := by kernel_rfl
theorem garageWrites_k16 : ((Rows.garageWritesRow.loops == (Tryz.f10.params.toList ++ Rows.garageWritesSpec.plain.varTypes Tryz.prog).any (Tryz.prog.loopsFrom ·))) = true := by kernel_rfl
theorem garageWrites_k17 : ((Rows.garageWritesRow.wideKeys == (Tryz.f10.params.toList ++ Rows.garageWritesSpec.plain.varTypes Tryz.prog ++ Tryz.f10.resultTypes.toList).any (Tryz.prog.wideKeysFrom ·))) = true := by kernel_rfl
theorem garageWrites_k18 : (Rows.garageWritesSpec.vars.all (Tryz.prog.varReadable ·)) = true := by kernel_rfl
theorem garageWrites_k19 : (Tryz.f10.resultTypes.all (fun t => Tryz.prog.readableRec t && decide (t < Tryz.prog.types.size))) = true := by kernel_rfl
theorem garageWrites_k20 : ((Rows.garageWritesRow.ifacesOut == Tryz.f10.resultTypes.toList.any (Tryz.prog.ifacesRec ·))) = true := by kernel_rfl
theorem garageWrites_k21 : ((Rows.garageWritesRow.loopsOut == Tryz.f10.resultTypes.toList.any (Tryz.prog.loopsFrom ·))) = true := by kernel_rfl
theorem garageWrites_k23 : (Rows.garageWritesRow.shortTexts.isNone) = true := by kernel_rfl
theorem garageWrites_k28 : ((Rows.garageWritesRow.kinds == (if Rows.garageWritesRow.domain.isEmpty then [] else Tryz.f10.params.toList.map fun t => match Tryz.prog.underlying t with | some (.int k) => some k | _ => none))) = true := by kernel_rfl
theorem garageWrites_k29 : ((Rows.garageWritesRow.pinned == Rows.garageWritesRow.pinnedBy)) = true := by kernel_rfl
theorem garageWrites_k30 : ((Rows.garageWritesRow.veiled == (Tryz.f10.params.toList ++ Rows.garageWritesSpec.plain.varTypes Tryz.prog ++ Tryz.f10.resultTypes.toList).any (Tryz.prog.veiledRec ·))) = true := by kernel_rfl
theorem garageWrites_k31 : (Rows.garageWritesRow.veiledFits Tryz.prog Tryz.f10.params.toList (Tryz.f10.params.toList ++ Rows.garageWritesSpec.plain.varTypes Tryz.prog ++ Tryz.f10.resultTypes.toList)) = true := by kernel_rfl
theorem garageWrites_closed : joinedFacts Tryz.prog 10 Tryz.f10 Rows.garageWritesSpec Rows.garageWritesRow = true := by
  unfold joinedFacts
  exact and_ok (and_ok (and_ok (and_ok (and_ok (and_ok (and_ok (and_ok (and_ok (and_ok (and_ok (and_ok (and_ok (and_ok (and_ok (and_ok (and_ok (and_ok (and_ok (and_ok (and_ok (and_ok (and_ok (and_ok (and_ok (and_ok (and_ok (and_ok (and_ok (and_ok (and_ok (garageWrites_k0) tryLaidOut) pg_maps) garageWrites_k3) garageWrites_k4) garageWrites_k5) pg_stops) garageWrites_k7) pg_knobs) garageWrites_k9) garageWrites_k10) garageWrites_k11) garageWrites_k12) garageWrites_k13) garageWrites_k14) garageWrites_k15) garageWrites_k16) garageWrites_k17) garageWrites_k18) garageWrites_k19) garageWrites_k20) garageWrites_k21) pg_plain) garageWrites_k23) pg_heard) pg_enter) pg_lifts) pg_make) garageWrites_k28) garageWrites_k29) garageWrites_k30) garageWrites_k31
theorem garageWrites_goes : false = Rows.garageWritesRow.goesBy Tryz.prog := by kernel_rfl
theorem garageWrites_wf : Rows.garageWritesRow.wfByText (OpenSpec.ofChange Rows.garageWritesSpec) = true := by kernel_rfl
theorem garageWrites_named : Tryz.prog.funcNamed "layover/layoverlaw12.GarageWrites" = some 10 := by kernel_rfl
theorem garageWrites_stand : ([22, 78].all fun u => !Tryz.prog.wantsStandIn u) = true := by kernel_rfl
theorem garageWrites_row : Rows.GarageWritesSaid :=
  OpenClaim.holds_of_wide 10 Tryz.f10 rfl rfl rfl rfl rfl rfl rfl ⟨rfl, rfl, rfl, rfl, rfl⟩ rfl rfl rfl rfl rfl garageWrites_named Tryz.func10 garageWrites_closed
    (of_decide_eq_true (by kernel_rfl)) (by unfold Func.isWrapper; rw [if_neg (of_decide_eq_false (by kernel_rfl))]; exact ⟨rfl, rfl⟩)
    (fun os started H enc _ => garageWrites_lifted os started H enc)
theorem garageWrites_holds : Rows.GarageWritesCardSaid :=
  Claim7.holds_tied_plain_at .later [] Rows.garageWritesCard.laidKinds true Rows.garageWritesCard.stood.harness true
    garageWrites_row (fun _ h => by cases h) garageWrites_wf (fun _ h => by cases h) garageWrites_row_tie rfl ⟨rfl, rfl⟩ pg_main rfl
    (fun f fn hf hfn => by
      obtain rfl : f = 10 := Option.some.inj (garageWrites_named.symm.trans hf) |>.symm
      obtain rfl : fn = Tryz.f10 := (Option.some.inj (Tryz.func10.symm.trans hfn)).symm
      exact ⟨pg_looks, fun j t ht => by
        rw [Tryz.params10] at ht
        have hm : t ∈ [22, 78] := by simpa using Array.mem_of_getElem? ht
        exact (show Tryz.prog.wantsStandIn t = false by simpa using List.all_eq_true.1 garageWrites_stand t hm)⟩)
    garageWrites_goes
end Go.Proofs.YtkpgggfibljflaaGreatDoor
