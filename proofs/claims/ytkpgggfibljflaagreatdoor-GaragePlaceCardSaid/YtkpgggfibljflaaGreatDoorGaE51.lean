/- GaragePlace, for every input. -/
import Derived.Test.YtkpgggfibljflaaGreatDoorGaE01
import Derived.Test.YtkpgggfibljflaaGreatDoorGaL02
set_option linter.all false
set_option maxRecDepth 100000
namespace Go.Proofs.YtkpgggfibljflaaGreatDoor
open Go Go.RowKit Go.ChangeShapes Go.WideShapes Go.ChangeAt Go.Proofs Go.Proofs.YtkpgggfibljflaaGreatDoor
theorem garagePlace_r (n : Nat) (lines : List ByteArray) (at_ : Int) : (flaw_GaragePlace_law n [.lst 9 lines, .int .u8 at_] 0 []).runK some = (flaw_GaragePlace n lines ⟨at_⟩).bind fun y => some ⟨false, .bool y.1, [], 0⟩ := by kernel_rfl
set_option maxHeartbeats 800000 in
theorem garagePlace_lifted (os : Os) (started : os.Started) (H : Type) (enc : TypeId × Value → H) :
    ReturnsInHanded {} Tryz.checked os 12 .any (fun w args => (Rows.garagePlaceSpec.pre enc Tryz.prog Tryz.f12 Rows.garagePlaceRow.domain false w args ∧ laidMetH Tryz.prog Rows.garagePlaceRow.laid w) ∧ sizedMet enc Tryz.prog Tryz.f12 (OpenSpec.ofChange Rows.garagePlaceSpec) false w args) (Rows.garagePlaceSpec.post enc Tryz.prog Tryz.f12 false true false false) := by
  refine returnsIn_shaped (C := Tryz.checked) (X := fun w _ => laidMetH Tryz.prog laidG w) (fun _ _ _ hh h => h.of_heap hh) tryOwn started (by kernel_rfl) Tryz.func12
    (ChangeSpec.witness_shaped (enc := enc) (C := Tryz.checked) (os := os) (X := fun w _ => laidMetH Tryz.prog laidG w) false (World.laidAll Tryz.prog os laidG) #[.slice none 0 0, .int .u8 0] 8 (World.laidAll_os _ _ _) (World.shaped_of_ZipB (by kernel_rfl) (by kernel_rfl)) (by kernel_rfl) (by kernel_rfl) (by kernel_rfl) (by rw [MakeChecks.laidMetH_plain _ _ _ (by kernel_rfl)]; exact laidMet_laidAll _ (by kernel_rfl) (by kernel_rfl))) ?_
  intro W base args ds gs before hval0 hW hz0 hL hsh
  have hval : ∀ (j : Nat) t v, Tryz.f12.params[j]? = some t → args[j]? = some v → Value.okWide Tryz.prog W .any base t v := hval0
  have hW' := hW
  obtain ⟨p, q, hA0, hV, rfl, _, _⟩ := hW
  have hA : DataW.TrodAll enc Tryz.prog W 0 (fun _ => true) true Tryz.f12.params.toList args.toList ds p := hA0
  have hz : (DataW.weightsEach Tryz.prog (Tryz.f12.params.toList ++ Rows.garagePlaceSpec.plain.varTypes Tryz.prog) (ds ++ gs)).all (· ≤ reachBytes) = true := hz0
  rw [Tryz.params12] at hA hval hz
  obtain ⟨v0, vs0, d0, ds0, p0, q0, ha0, rfl, rfl, h0, hA⟩ := trodAll_cons hA
  obtain ⟨v1, vs1, d1, ds1, p1, q1, rfl, rfl, rfl, h1, hA⟩ := trodAll_cons hA
  obtain ⟨rfl, rfl, rfl⟩ := trodAll_nil hA
  obtain rfl : args = #[v0, v1] := by cases args; simp_all
  obtain ⟨rfl, rfl⟩ := trodVars_none hV
  obtain ⟨lines, alines, clines, rfl, hlines, rlines⟩ := open_sl opStrs Tryz.underlying22 (hval 0 22 v0 rfl rfl) h0
  obtain ⟨at_, rfl, rfl, rfl, wat_⟩ := open_int Tryz.underlying5 (hval 1 5 v1 rfl rfl) h1
  have lenlines : lines.length ≤ 4000000000000000000 := by
    rcases sl_shape Tryz.underlying22 h0 with hn | ⟨es, rs, rfl, hl⟩
    · omega
    · have := sized_slice hz (j := 0) (t := 22) (e := 9) rfl rfl Tryz.underlying22
      rw [show Tryz.prog.bytesOf 9 = 16 by kernel_rfl, hl, show reachBytes = 140737488351232 from rfl] at this
      omega
  clear hA0 hval0 hz hz0
  simp only [List.append_nil] at hW'
  have hlt : ∀ z ∈ p0, z.block < W.heap.size := fun z hz => hW'.lt z (by simpa using hz)
  have bat_ := u8_range wat_
  refine (call_true (flaw_GaragePlace_lawOk (lines.length + 700)) (by decide) (glP_of hL hsh) ((garagePlace_r (lines.length + 700) lines at_).trans (by rw [place_law (by omega) (by omega) bat_]; rfl)) (by kernel_rfl) (vals := [.slice alines lines.length clines, .int .u8 at_]) ?_).mono fun e W' ⟨he, hb⟩ => ?_
  · exact (dens_lst hlines (dens_int endNil))
  subst he
  have harg0 : DataW.Trod enc Tryz.prog W' 0 (fun b => decide (b < W.heap.size)) true 22 (.slice alines lines.length clines) d0 p0 :=
    Below.trod tryLaidOut (by kernel_rfl) (of_decide_eq_true (by kernel_rfl)) h0 hb (fun z hz => hlt z hz)
  refine ⟨_, rfl, _, _, _, [], p0, [], hW', ?_, ?_, rfl, hb.frame _, fun h => by cases h⟩
  · exact trodAll_mk1 (shut_bool Tryz.underlying4 _)
  · exact ⟨p0, [], harg0, ⟨[], [], shut_int Tryz.underlying5 wat_, rfl, by simp⟩, by simp⟩
theorem garagePlace_k0 : (Rows.garagePlaceRow.wf (OpenSpec.ofChange Rows.garagePlaceSpec)) = true := by kernel_rfl
theorem garagePlace_k3 : (Tryz.f12.params.all (Tryz.prog.readableRec ·)) = true := by kernel_rfl
theorem garagePlace_k4 : (namedTie Tryz.prog Rows.garagePlaceRow.named Rows.garagePlaceSpec.vars) = true := by kernel_rfl
theorem garagePlace_k5 : ((Rows.garagePlaceRow.stops == [])) = true := by kernel_rfl
theorem garagePlace_k7 : ((Rows.garagePlaceRow.knobs == [])) = true := by kernel_rfl
theorem garagePlace_k9 : ((Rows.garagePlaceRow.inPlace == Tryz.prog.inPlace 12)) = true := by kernel_rfl
theorem garagePlace_k10 : ((Rows.garagePlaceRow.unfollowed == Tryz.prog.unfollowed 12)) = true := by kernel_rfl
theorem garagePlace_k11 : ((Rows.garagePlaceRow.recurses == Tryz.prog.recurses 12)) = true := by kernel_rfl
theorem garagePlace_k12 : ((Rows.garagePlaceRow.named == Tryz.prog.varsNamed 12)) = true := by kernel_rfl
theorem garagePlace_k13 : ((Rows.garagePlaceRow.maps == (Tryz.f12.params.toList ++ Rows.garagePlaceSpec.plain.varTypes Tryz.prog).any (Tryz.prog.mapsRec ·))) = true := by kernel_rfl
theorem garagePlace_k14 : ((Rows.garagePlaceRow.ifaces == (Tryz.f12.params.toList ++ Rows.garagePlaceSpec.plain.varTypes Tryz.prog).any (Tryz.prog.ifacesRec ·))) = true := by kernel_rfl
theorem garagePlace_k15 : ((Rows.garagePlaceRow.mapsOut == Tryz.prog.mapsAmong Tryz.f12.resultTypes.toList)) = true := by kernel_rfl
theorem garagePlace_k16 : ((Rows.garagePlaceRow.loops == (Tryz.f12.params.toList ++ Rows.garagePlaceSpec.plain.varTypes Tryz.prog).any (Tryz.prog.loopsFrom ·))) = true := by kernel_rfl
theorem garagePlace_k17 : ((Rows.garagePlaceRow.wideKeys == (Tryz.f12.params.toList ++ Rows.garagePlaceSpec.plain.varTypes Tryz.prog ++ Tryz.f12.resultTypes.toList).any (Tryz.prog.wideKeysFrom ·))) = true := by kernel_rfl
theorem garagePlace_k18 : (Rows.garagePlaceSpec.vars.all (Tryz.prog.varReadable ·)) = true := by kernel_rfl
theorem garagePlace_k19 : (Tryz.f12.resultTypes.all (fun t => Tryz.prog.readableRec t && decide (t < Tryz.prog.types.size))) = true := by kernel_rfl
theorem garagePlace_k20 : ((Rows.garagePlaceRow.ifacesOut == Tryz.f12.resultTypes.toList.any (Tryz.prog.ifacesRec ·))) = true := by kernel_rfl
theorem garagePlace_k21 : ((Rows.garagePlaceRow.loopsOut == Tryz.f12.resultTypes.toList.any (Tryz.prog.loopsFrom ·))) = true := by kernel_rfl
theorem garagePlace_k23 : (Rows.garagePlaceRow.shortTexts.isNone) = true := by kernel_rfl
theorem garagePlace_k28 : ((Rows.garagePlaceRow.kinds == (if Rows.garagePlaceRow.domain.isEmpty then [] else Tryz.f12.params.toList.map fun t => match Tryz.prog.underlying t with | some (.int k) => some k | _ => none))) = true := by kernel_rfl
theorem garagePlace_k29 : ((Rows.garagePlaceRow.pinned == Rows.garagePlaceRow.pinnedBy)) = true := by kernel_rfl
theorem garagePlace_k30 : ((Rows.garagePlaceRow.veiled == (Tryz.f12.params.toList ++ Rows.garagePlaceSpec.plain.varTypes Tryz.prog ++ Tryz.f12.resultTypes.toList).any (Tryz.prog.veiledRec ·))) = true := by kernel_rfl
theorem garagePlace_k31 : (Rows.garagePlaceRow.veiledFits Tryz.prog Tryz.f12.params.toList (Tryz.f12.params.toList ++ Rows.garagePlaceSpec.plain.varTypes Tryz.prog ++ Tryz.f12.resultTypes.toList)) = true := by kernel_rfl
theorem garagePlace_closed : joinedFacts Tryz.prog 12 Tryz.f12 Rows.garagePlaceSpec Rows.garagePlaceRow = true := by
  unfold joinedFacts
  exact and_ok (and_ok (and_ok (and_ok (and_ok (and_ok (and_ok (and_ok (and_ok (and_ok (and_ok (and_ok (and_ok (and_ok (and_ok (and_ok (and_ok (and_ok (and_ok (and_ok (and_ok (and_ok (and_ok (and_ok (and_ok (and_ok (and_ok (and_ok (and_ok (and_ok (and_ok (garagePlace_k0) tryLaidOut) pg_maps) garagePlace_k3) garagePlace_k4) garagePlace_k5) pg_stops) garagePlace_k7) pg_knobs) garagePlace_k9) garagePlace_k10) garagePlace_k11) garagePlace_k12) garagePlace_k13) garagePlace_k14) garagePlace_k15) garagePlace_k16) garagePlace_k17) garagePlace_k18) garagePlace_k19) garagePlace_k20) garagePlace_k21) pg_plain) garagePlace_k23) pg_heard) pg_enter) pg_lifts) pg_make) garagePlace_k28) garagePlace_k29) garagePlace_k30) garagePlace_k31
theorem garagePlace_goes : false = Rows.garagePlaceRow.goesBy Tryz.prog := by kernel_rfl
theorem garagePlace_wf : Rows.garagePlaceRow.wfByText (OpenSpec.ofChange Rows.garagePlaceSpec) = true := by kernel_rfl
theorem garagePlace_named : Tryz.prog.funcNamed "layover/layoverlaw12.GaragePlace" = some 12 := by kernel_rfl
theorem garagePlace_stand : ([22, 5].all fun u => !Tryz.prog.wantsStandIn u) = true := by kernel_rfl
theorem garagePlace_row : Rows.GaragePlaceSaid :=
  OpenClaim.holds_of_wide 12 Tryz.f12 rfl rfl rfl rfl rfl rfl rfl ⟨rfl, rfl, rfl, rfl, rfl⟩ rfl rfl rfl rfl rfl garagePlace_named Tryz.func12 garagePlace_closed
    (of_decide_eq_true (by kernel_rfl)) (by unfold Func.isWrapper; rw [if_neg (of_decide_eq_false (by kernel_rfl))]; exact ⟨rfl, rfl⟩)
    (fun os started H enc _ => garagePlace_lifted os started H enc)
theorem garagePlace_holds : Rows.GaragePlaceCardSaid :=
  Claim7.holds_tied_plain_at .later [] Rows.garagePlaceCard.laidKinds true Rows.garagePlaceCard.stood.harness true
    garagePlace_row (fun _ h => by cases h) garagePlace_wf (fun _ h => by cases h) garagePlace_row_tie rfl ⟨rfl, rfl⟩ pg_main rfl
    (fun f fn hf hfn => by
      obtain rfl : f = 12 := Option.some.inj (garagePlace_named.symm.trans hf) |>.symm
      obtain rfl : fn = Tryz.f12 := (Option.some.inj (Tryz.func12.symm.trans hfn)).symm
      exact ⟨pg_looks, fun j t ht => by
        rw [Tryz.params12] at ht
        have hm : t ∈ [22, 5] := by simpa using Array.mem_of_getElem? ht
        exact (show Tryz.prog.wantsStandIn t = false by simpa using List.all_eq_true.1 garagePlace_stand t hm)⟩)
    garagePlace_goes
end Go.Proofs.YtkpgggfibljflaaGreatDoor
