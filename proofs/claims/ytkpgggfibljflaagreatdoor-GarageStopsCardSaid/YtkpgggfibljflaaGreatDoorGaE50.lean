/- GarageStops, for every input. -/
import Derived.Test.YtkpgggfibljflaaGreatDoorGaE01
import Derived.Test.YtkpgggfibljflaaGreatDoorGaL02
set_option linter.all false
set_option maxRecDepth 100000
namespace Go.Proofs.YtkpgggfibljflaaGreatDoor
open Go Go.RowKit Go.ChangeShapes Go.WideShapes Go.ChangeAt Go.Proofs Go.Proofs.YtkpgggfibljflaaGreatDoor
theorem garageStops_r (n : Nat) (lines : List ByteArray) (at_ : Int) (change : Int) : (flaw_GarageStops_law n [.lst 9 lines, .int .u16 at_, .int .u16 change] 0 []).runK some = (flaw_GarageStops n lines ⟨at_⟩ ⟨change⟩).bind fun y => some ⟨false, .bool y.1, [], 0⟩ := by kernel_rfl
set_option maxHeartbeats 800000 in
theorem garageStops_lifted (os : Os) (started : os.Started) (H : Type) (enc : TypeId × Value → H) :
    ReturnsInHanded {} Tryz.checked os 11 .any (fun w args => (Rows.garageStopsSpec.pre enc Tryz.prog Tryz.f11 Rows.garageStopsRow.domain false w args ∧ laidMetH Tryz.prog Rows.garageStopsRow.laid w) ∧ sizedMet enc Tryz.prog Tryz.f11 (OpenSpec.ofChange Rows.garageStopsSpec) false w args) (Rows.garageStopsSpec.post enc Tryz.prog Tryz.f11 false true false false) := by
  refine returnsIn_shaped (C := Tryz.checked) (X := fun w _ => laidMetH Tryz.prog laidG w) (fun _ _ _ hh h => h.of_heap hh) tryOwn started (by kernel_rfl) Tryz.func11
    (ChangeSpec.witness_shaped (enc := enc) (C := Tryz.checked) (os := os) (X := fun w _ => laidMetH Tryz.prog laidG w) false (World.laidAll Tryz.prog os laidG) #[.slice none 0 0, .int .u16 0, .int .u16 0] 8 (World.laidAll_os _ _ _) (World.shaped_of_ZipB (by kernel_rfl) (by kernel_rfl)) (by kernel_rfl) (by kernel_rfl) (by kernel_rfl) (by rw [MakeChecks.laidMetH_plain _ _ _ (by kernel_rfl)]; exact laidMet_laidAll _ (by kernel_rfl) (by kernel_rfl))) ?_
  intro W base args ds gs before hval0 hW hz0 hL hsh
  have hval : ∀ (j : Nat) t v, Tryz.f11.params[j]? = some t → args[j]? = some v → Value.okWide Tryz.prog W .any base t v := hval0
  have hW' := hW
  obtain ⟨p, q, hA0, hV, rfl, _, _⟩ := hW
  have hA : DataW.TrodAll enc Tryz.prog W 0 (fun _ => true) true Tryz.f11.params.toList args.toList ds p := hA0
  have hz : (DataW.weightsEach Tryz.prog (Tryz.f11.params.toList ++ Rows.garageStopsSpec.plain.varTypes Tryz.prog) (ds ++ gs)).all (· ≤ reachBytes) = true := hz0
  rw [Tryz.params11] at hA hval hz
  obtain ⟨v0, vs0, d0, ds0, p0, q0, ha0, rfl, rfl, h0, hA⟩ := trodAll_cons hA
  obtain ⟨v1, vs1, d1, ds1, p1, q1, rfl, rfl, rfl, h1, hA⟩ := trodAll_cons hA
  obtain ⟨v2, vs2, d2, ds2, p2, q2, rfl, rfl, rfl, h2, hA⟩ := trodAll_cons hA
  obtain ⟨rfl, rfl, rfl⟩ := trodAll_nil hA
  obtain rfl : args = #[v0, v1, v2] := by cases args; simp_all
  obtain ⟨rfl, rfl⟩ := trodVars_none hV
  obtain ⟨lines, alines, clines, rfl, hlines, rlines⟩ := open_sl opStrs Tryz.underlying22 (hval 0 22 v0 rfl rfl) h0
  obtain ⟨at_, rfl, rfl, rfl, wat_⟩ := open_int Tryz.underlying87 (hval 1 87 v1 rfl rfl) h1
  obtain ⟨change, rfl, rfl, rfl, wchange⟩ := open_int Tryz.underlying87 (hval 2 87 v2 rfl rfl) h2
  have lenlines : lines.length ≤ 4000000000000000000 := by
    rcases sl_shape Tryz.underlying22 h0 with hn | ⟨es, rs, rfl, hl⟩
    · omega
    · have := sized_slice hz (j := 0) (t := 22) (e := 9) rfl rfl Tryz.underlying22
      rw [show Tryz.prog.bytesOf 9 = 16 by kernel_rfl, hl, show reachBytes = 140737488351232 from rfl] at this
      omega
  clear hA0 hval0 hz hz0
  simp only [List.append_nil] at hW'
  have hlt : ∀ z ∈ p0, z.block < W.heap.size := fun z hz => hW'.lt z (by simpa using hz)
  have bat_ := u16_range wat_
  have bchange := u16_range wchange
  refine (call_true (flaw_GarageStops_lawOk (lines.length + 700)) (by decide) (glP_of hL hsh) ((garageStops_r (lines.length + 700) lines at_ change).trans (by rw [stops_law (by omega) (by omega) bat_ bchange]; rfl)) (by kernel_rfl) (vals := [.slice alines lines.length clines, .int .u16 at_, .int .u16 change]) ?_).mono fun e W' ⟨he, hb⟩ => ?_
  · exact (dens_lst hlines (dens_int (dens_int endNil)))
  subst he
  have harg0 : DataW.Trod enc Tryz.prog W' 0 (fun b => decide (b < W.heap.size)) true 22 (.slice alines lines.length clines) d0 p0 :=
    Below.trod tryLaidOut (by kernel_rfl) (of_decide_eq_true (by kernel_rfl)) h0 hb (fun z hz => hlt z hz)
  refine ⟨_, rfl, _, _, _, [], p0, [], hW', ?_, ?_, rfl, hb.frame _, fun h => by cases h⟩
  · exact trodAll_mk1 (shut_bool Tryz.underlying4 _)
  · exact ⟨p0, [], harg0, ⟨[], [], shut_int Tryz.underlying87 wat_, ⟨[], [], shut_int Tryz.underlying87 wchange, rfl, by simp⟩, by simp⟩, by simp⟩
theorem garageStops_k0 : (Rows.garageStopsRow.wf (OpenSpec.ofChange Rows.garageStopsSpec)) = true := by kernel_rfl
theorem garageStops_k3 : (Tryz.f11.params.all (Tryz.prog.readableRec ·)) = true := by kernel_rfl
theorem garageStops_k4 : (namedTie Tryz.prog Rows.garageStopsRow.named Rows.garageStopsSpec.vars) = true := by kernel_rfl
theorem garageStops_k5 : ((Rows.garageStopsRow.stops == [])) = true := by kernel_rfl
theorem garageStops_k7 : ((Rows.garageStopsRow.knobs == [])) = true := by kernel_rfl
theorem garageStops_k9 : ((Rows.garageStopsRow.inPlace == Tryz.prog.inPlace 11)) = true := by kernel_rfl
theorem garageStops_k10 : ((Rows.garageStopsRow.unfollowed == Tryz.prog.unfollowed 11)) = true := by kernel_rfl
theorem garageStops_k11 : ((Rows.garageStopsRow.recurses == Tryz.prog.recurses 11)) = true := by kernel_rfl
theorem garageStops_k12 : ((Rows.garageStopsRow.named == Tryz.prog.varsNamed 11)) = true := by kernel_rfl
theorem garageStops_k13 : ((Rows.garageStopsRow.maps == (Tryz.f11.params.toList ++ Rows.garageStopsSpec.plain.varTypes Tryz.prog).any (Tryz.prog.mapsRec ·))) = true := by kernel_rfl
theorem garageStops_k14 : ((Rows.garageStopsRow.ifaces == (Tryz.f11.params.toList ++ Rows.garageStopsSpec.plain.varTypes Tryz.prog).any (Tryz.prog.ifacesRec ·))) = true := by kernel_rfl
theorem garageStops_k15 : ((Rows.garageStopsRow.mapsOut == Tryz.prog.mapsAmong Tryz.f11.resultTypes.toList)) = true := by kernel_rfl
theorem garageStops_k16 : ((Rows.garageStopsRow.loops == (Tryz.f11.params.toList ++ Rows.garageStopsSpec.plain.varTypes Tryz.prog).any (Tryz.prog.loopsFrom ·))) = true := by kernel_rfl
theorem garageStops_k17 : ((Rows.garageStopsRow.wideKeys == (Tryz.f11.params.toList ++ Rows.garageStopsSpec.plain.varTypes Tryz.prog ++ Tryz.f11.resultTypes.toList).any (Tryz.prog.wideKeysFrom ·))) = true := by kernel_rfl
theorem garageStops_k18 : (Rows.garageStopsSpec.vars.all (Tryz.prog.varReadable ·)) = true := by kernel_rfl
theorem garageStops_k19 : (Tryz.f11.resultTypes.all (fun t => Tryz.prog.readableRec t && decide (t < Tryz.prog.types.size))) = true := by kernel_rfl
theorem garageStops_k20 : ((Rows.garageStopsRow.ifacesOut == Tryz.f11.resultTypes.toList.any (Tryz.prog.ifacesRec ·))) = true := by kernel_rfl
theorem garageStops_k21 : ((Rows.garageStopsRow.loopsOut == Tryz.f11.resultTypes.toList.any (Tryz.prog.loopsFrom ·))) = true := by kernel_rfl
theorem garageStops_k23 : (Rows.garageStopsRow.shortTexts.isNone) = true := by kernel_rfl
theorem garageStops_k28 : ((Rows.garageStopsRow.kinds == (if Rows.garageStopsRow.domain.isEmpty then [] else Tryz.f11.params.toList.map fun t => match Tryz.prog.underlying t with | some (.int k) => some k | _ => none))) = true := by kernel_rfl
theorem garageStops_k29 : ((Rows.garageStopsRow.pinned == Rows.garageStopsRow.pinnedBy)) = true := by kernel_rfl
theorem garageStops_k30 : ((Rows.garageStopsRow.veiled == (Tryz.f11.params.toList ++ Rows.garageStopsSpec.plain.varTypes Tryz.prog ++ Tryz.f11.resultTypes.toList).any (Tryz.prog.veiledRec ·))) = true := by kernel_rfl
theorem garageStops_k31 : (Rows.garageStopsRow.veiledFits Tryz.prog Tryz.f11.params.toList (Tryz.f11.params.toList ++ Rows.garageStopsSpec.plain.varTypes Tryz.prog ++ Tryz.f11.resultTypes.toList)) = true := by kernel_rfl
theorem garageStops_closed : joinedFacts Tryz.prog 11 Tryz.f11 Rows.garageStopsSpec Rows.garageStopsRow = true := by
  unfold joinedFacts
  exact and_ok (and_ok (and_ok (and_ok (and_ok (and_ok (and_ok (and_ok (and_ok (and_ok (and_ok (and_ok (and_ok (and_ok (and_ok (and_ok (and_ok (and_ok (and_ok (and_ok (and_ok (and_ok (and_ok (and_ok (and_ok (and_ok (and_ok (and_ok (and_ok (and_ok (and_ok (garageStops_k0) tryLaidOut) pg_maps) garageStops_k3) garageStops_k4) garageStops_k5) pg_stops) garageStops_k7) pg_knobs) garageStops_k9) garageStops_k10) garageStops_k11) garageStops_k12) garageStops_k13) garageStops_k14) garageStops_k15) garageStops_k16) garageStops_k17) garageStops_k18) garageStops_k19) garageStops_k20) garageStops_k21) pg_plain) garageStops_k23) pg_heard) pg_enter) pg_lifts) pg_make) garageStops_k28) garageStops_k29) garageStops_k30) garageStops_k31
theorem garageStops_goes : false = Rows.garageStopsRow.goesBy Tryz.prog := by kernel_rfl
theorem garageStops_wf : Rows.garageStopsRow.wfByText (OpenSpec.ofChange Rows.garageStopsSpec) = true := by kernel_rfl
theorem garageStops_named : Tryz.prog.funcNamed "layover/layoverlaw12.GarageStops" = some 11 := by kernel_rfl
theorem garageStops_stand : ([22, 87, 87].all fun u => !Tryz.prog.wantsStandIn u) = true := by kernel_rfl
theorem garageStops_row : Rows.GarageStopsSaid :=
  OpenClaim.holds_of_wide 11 Tryz.f11 rfl rfl rfl rfl rfl rfl rfl ⟨rfl, rfl, rfl, rfl, rfl⟩ rfl rfl rfl rfl rfl garageStops_named Tryz.func11 garageStops_closed
    (of_decide_eq_true (by kernel_rfl)) (by unfold Func.isWrapper; rw [if_neg (of_decide_eq_false (by kernel_rfl))]; exact ⟨rfl, rfl⟩)
    (fun os started H enc _ => garageStops_lifted os started H enc)
theorem garageStops_holds : Rows.GarageStopsCardSaid :=
  Claim7.holds_tied_plain_at .later [] Rows.garageStopsCard.laidKinds true Rows.garageStopsCard.stood.harness true
    garageStops_row (fun _ h => by cases h) garageStops_wf (fun _ h => by cases h) garageStops_row_tie rfl ⟨rfl, rfl⟩ pg_main rfl
    (fun f fn hf hfn => by
      obtain rfl : f = 11 := Option.some.inj (garageStops_named.symm.trans hf) |>.symm
      obtain rfl : fn = Tryz.f11 := (Option.some.inj (Tryz.func11.symm.trans hfn)).symm
      exact ⟨pg_looks, fun j t ht => by
        rw [Tryz.params11] at ht
        have hm : t ∈ [22, 87, 87] := by simpa using Array.mem_of_getElem? ht
        exact (show Tryz.prog.wantsStandIn t = false by simpa using List.all_eq_true.1 garageStops_stand t hm)⟩)
    garageStops_goes
end Go.Proofs.YtkpgggfibljflaaGreatDoor
