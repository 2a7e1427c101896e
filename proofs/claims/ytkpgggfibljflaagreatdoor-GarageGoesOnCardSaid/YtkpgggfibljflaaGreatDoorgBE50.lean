/- GarageGoesOn, for every input. -/
import Derived.Test.YtkpgggfibljflaaGreatDoorGaE01
import Derived.Test.YtkpgggfibljflaaGreatDoorgBL04
set_option linter.all false
set_option maxRecDepth 100000
namespace Go.Proofs.YtkpgggfibljflaaGreatDoor
open Go Go.RowKit Go.ChangeShapes Go.WideShapes Go.ChangeAt Go.Proofs Go.Proofs.YtkpgggfibljflaaGreatDoor
theorem Ga (n : Nat) (lines : List ByteArray) (at_ : Int) : (flaw_GarageGoesOn_law n [.lst 9 lines, .int .u16 at_] 0 []).runK some = (AI n lines ⟨at_⟩).bind fun y => some ⟨false, .bool y.1, [], 0⟩ := by kernel_rfl
set_option maxHeartbeats 800000 in
theorem DD (os : Os) (started : os.Started) (H : Type) (enc : TypeId × Value → H) :
    ReturnsInHanded {} Tryz.checked os 15 .any (fun w args => (Rows.garageGoesOnSpec.pre enc Tryz.prog Tryz.f15 Rows.garageGoesOnRow.domain false w args ∧ laidMetH Tryz.prog Rows.garageGoesOnRow.laid w) ∧ sizedMet enc Tryz.prog Tryz.f15 (OpenSpec.ofChange Rows.garageGoesOnSpec) false w args) (Rows.garageGoesOnSpec.post enc Tryz.prog Tryz.f15 false true false false) := by
  refine returnsIn_shaped (C := Tryz.checked) (X := fun w _ => laidMetH Tryz.prog laidG w) (fun _ _ _ hh h => h.of_heap hh) tryOwn started (by kernel_rfl) Tryz.func15
    (ChangeSpec.witness_shaped (enc := enc) (C := Tryz.checked) (os := os) (X := fun w _ => laidMetH Tryz.prog laidG w) false (World.laidAll Tryz.prog os laidG) #[.slice none 0 0, .int .u16 0] 8 (World.laidAll_os _ _ _) (World.shaped_of_ZipB (by kernel_rfl) (by kernel_rfl)) (by kernel_rfl) (by kernel_rfl) (by kernel_rfl) (by rw [MakeChecks.laidMetH_plain _ _ _ (by kernel_rfl)]; exact laidMet_laidAll _ (by kernel_rfl) (by kernel_rfl))) ?_
  intro W base args ds gs before hval0 hW hz0 hL hsh
  have hval : ∀ (j : Nat) t v, Tryz.f15.params[j]? = some t → args[j]? = some v → Value.okWide Tryz.prog W .any base t v := hval0
  have hW' := hW
  obtain ⟨p, q, hA0, hV, rfl, _, _⟩ := hW
  have hA : DataW.TrodAll enc Tryz.prog W 0 (fun _ => true) true Tryz.f15.params.toList args.toList ds p := hA0
  have hz : (DataW.weightsEach Tryz.prog (Tryz.f15.params.toList ++ Rows.garageGoesOnSpec.plain.varTypes Tryz.prog) (ds ++ gs)).all (· ≤ reachBytes) = true := hz0
  rw [Tryz.params15] at hA hval hz
  obtain ⟨v0, vs0, d0, ds0, p0, q0, ha0, rfl, rfl, h0, hA⟩ := trodAll_cons hA
  obtain ⟨v1, vs1, d1, ds1, p1, q1, rfl, rfl, rfl, h1, hA⟩ := trodAll_cons hA
  obtain ⟨rfl, rfl, rfl⟩ := trodAll_nil hA
  obtain rfl : args = #[v0, v1] := by cases args; simp_all
  obtain ⟨rfl, rfl⟩ := trodVars_none hV
  obtain ⟨lines, alines, clines, rfl, hlines, rlines⟩ := open_sl opStrs Tryz.underlying22 (hval 0 22 v0 rfl rfl) h0
  obtain ⟨at_, rfl, rfl, rfl, wat_⟩ := open_int Tryz.underlying87 (hval 1 87 v1 rfl rfl) h1
  have lenlines : lines.length ≤ 4000000000000000000 := by
    rcases sl_shape Tryz.underlying22 h0 with hn | ⟨es, rs, rfl, hl⟩
    · omega
    · have := sized_slice hz (j := 0) (t := 22) (e := 9) rfl rfl Tryz.underlying22
      rw [show Tryz.prog.bytesOf 9 = 16 by kernel_rfl, hl, show reachBytes = 140737488351232 from rfl] at this
      omega
  clear hA0 hval0 hz hz0
  simp only [List.append_nil] at hW'
  have hlt : ∀ z ∈ p0, z.block < W.heap.size := fun z hz => hW'.lt z (by simpa using hz)
  have bat_ := u16_range wat_
  refine (call_true (CH (lines.length + 1800)) (by decide) (glP_of hL hsh) ((Ga (lines.length + 1800) lines at_).trans (by rw [Iu (by omega) (by omega) bat_]; rfl)) (by kernel_rfl) (vals := [.slice alines lines.length clines, .int .u16 at_]) ?_).mono fun e W' ⟨he, hb⟩ => ?_
  · exact (dens_lst hlines (dens_int endNil))
  subst he
  have harg0 : DataW.Trod enc Tryz.prog W' 0 (fun b => decide (b < W.heap.size)) true 22 (.slice alines lines.length clines) d0 p0 :=
    Below.trod tryLaidOut (by kernel_rfl) (of_decide_eq_true (by kernel_rfl)) h0 hb (fun z hz => hlt z hz)
  refine ⟨_, rfl, _, _, _, [], p0, [], hW', ?_, ?_, rfl, hb.frame _, fun h => by cases h⟩
  · exact trodAll_mk1 (shut_bool Tryz.underlying4 _)
  · exact ⟨p0, [], harg0, ⟨[], [], shut_int Tryz.underlying87 wat_, rfl, by simp⟩, by simp⟩
theorem FF : (Rows.garageGoesOnRow.wf (OpenSpec.ofChange Rows.garageGoesOnSpec)) = true := by kernel_rfl
theorem FG : (Tryz.f15.params.all (Tryz.prog.readableRec ·)) = true := by kernel_rfl
theorem FH : (namedTie Tryz.prog Rows.garageGoesOnRow.named Rows.garageGoesOnSpec.vars) = true := by kernel_rfl
theorem FI : ((Rows.garageGoesOnRow.stops == [])) = true := by kernel_rfl
theorem FJ : ((Rows.garageGoesOnRow.knobs == [])) = true := by kernel_rfl
theorem FK : ((Rows.garageGoesOnRow.inPlace == Tryz.prog.inPlace 15)) = true := by kernel_rfl
theorem ED : ((Rows.garageGoesOnRow.unfollowed == Tryz.prog.unfollowed 15)) = true := by kernel_rfl
theorem EE : ((Rows.garageGoesOnRow.recurses == Tryz.prog.recurses 15)) = true := by kernel_rfl
theorem EF : ((Rows.garageGoesOnRow.named == Tryz.prog.varsNamed 15)) = true := by kernel_rfl
theorem EG : ((Rows.garageGoesOnRow.maps == (Tryz.f15.params.toList ++ Rows.garageGoesOnSpec.plain.varTypes Tryz.prog).any (Tryz.prog.mapsRec ·))) = true := by kernel_rfl
theorem EH : ((Rows.garageGoesOnRow.ifaces == (Tryz.f15.params.toList ++ Rows.garageGoesOnSpec.plain.varTypes Tryz.prog).any (Tryz.prog.ifacesRec ·))) = true := by kernel_rfl
theorem EI : ((Rows.garageGoesOnRow.mapsOut == Tryz.prog.mapsAmong Tryz.f15.resultTypes.toList)) = true := by kernel_rfl
theorem EJ : ((Rows.garageGoesOnRow.loops == (Tryz.f15.params.toList ++ Rows.garageGoesOnSpec.plain.varTypes Tryz.prog).any (Tryz.prog.loopsFrom ·))) = true := by kernel_rfl
theorem EL : ((Rows.garageGoesOnRow.wideKeys == (Tryz.f15.params.toList ++ Rows.garageGoesOnSpec.plain.varTypes Tryz.prog ++ Tryz.f15.resultTypes.toList).any (Tryz.prog.wideKeysFrom ·))) = true := by kernel_rfl
theorem EM : (Rows.garageGoesOnSpec.vars.all (Tryz.prog.varReadable ·)) = true := by kernel_rfl
theorem EN : (Tryz.f15.resultTypes.all (fun t => Tryz.prog.readableRec t && decide (t < Tryz.prog.types.size))) = true := by kernel_rfl
theorem EO : ((Rows.garageGoesOnRow.ifacesOut == Tryz.f15.resultTypes.toList.any (Tryz.prog.ifacesRec ·))) = true := by kernel_rfl
theorem EP : ((Rows.garageGoesOnRow.loopsOut == Tryz.f15.resultTypes.toList.any (Tryz.prog.loopsFrom ·))) = true := by kernel_rfl
theorem EQ : (Rows.garageGoesOnRow.shortTexts.isNone) = true := by kernel_rfl
theorem ER : ((Rows.garageGoesOnRow.kinds == (if Rows.garageGoesOnRow.domain.isEmpty then [] else Tryz.f15.params.toList.map fun t => match Tryz.prog.underlying t with | some (.int k) => some k | _ => none))) = true := by kernel_rfl
theorem ET : ((Rows.garageGoesOnRow.pinned == Rows.garageGoesOnRow.pinnedBy)) = true := by kernel_rfl
theorem EU : ((Rows.garageGoesOnRow.veiled == (Tryz.f15.params.toList ++ Rows.garageGoesOnSpec.plain.varTypes Tryz.prog ++ Tryz.f15.resultTypes.toList).any (Tryz.prog.veiledRec ·))) = true := by kernel_rfl
theorem EV : (Rows.garageGoesOnRow.veiledFits Tryz.prog Tryz.f15.params.toList (Tryz.f15.params.toList ++ Rows.garageGoesOnSpec.plain.varTypes Tryz.prog ++ Tryz.f15.resultTypes.toList)) = true := by kernel_rfl
theorem DE : joinedFacts Tryz.prog 15 Tryz.f15 Rows.garageGoesOnSpec Rows.garageGoesOnRow = true := by
  unfold joinedFacts
  exact and_ok (and_ok (and_ok (and_ok (and_ok (and_ok (and_ok (and_ok (and_ok (and_ok (and_ok (and_ok (and_ok (and_ok (and_ok (and_ok (and_ok (and_ok (and_ok (and_ok (and_ok (and_ok (and_ok (and_ok (and_ok (and_ok (and_ok (and_ok (and_ok (and_ok (and_ok (FF) tryLaidOut) pg_maps) FG) FH) FI) pg_stops) FJ) pg_knobs) FK) ED) EE) EF) EG) EH) EI) EJ) EL) EM) EN) EO) EP) pg_plain) EQ) pg_heard) pg_enter) pg_lifts) pg_make) ER) ET) EU) EV
theorem Eg : false = Rows.garageGoesOnRow.goesBy Tryz.prog := by kernel_rfl
theorem FL : Rows.garageGoesOnRow.wfByText (OpenSpec.ofChange Rows.garageGoesOnSpec) = true := by kernel_rfl
theorem Cl : Tryz.prog.funcNamed "layover/layoverlaw12.GarageGoesOn" = some 15 := by kernel_rfl
theorem DP : ([22, 87].all fun u => !Tryz.prog.wantsStandIn u) = true := by kernel_rfl
theorem EW : Rows.GarageGoesOnSaid :=
  OpenClaim.holds_of_wide 15 Tryz.f15 rfl rfl rfl rfl rfl rfl rfl ⟨rfl, rfl, rfl, rfl, rfl⟩ rfl rfl rfl rfl rfl Cl Tryz.func15 DE
    (of_decide_eq_true (by kernel_rfl)) (by unfold Func.isWrapper; rw [if_neg (of_decide_eq_false (by kernel_rfl))]; exact ⟨rfl, rfl⟩)
    (fun os started H enc _ => DD os started H enc)
theorem garageGoesOn_holds : Rows.GarageGoesOnCardSaid :=
  Claim7.holds_tied_plain_at .later [] Rows.garageGoesOnCard.laidKinds true Rows.garageGoesOnCard.stood.harness true
    EW (fun _ h => by cases h) FL (fun _ h => by cases h) garageGoesOn_row_tie rfl ⟨rfl, rfl⟩ pg_main rfl
    (fun f fn hf hfn => by
      obtain rfl : f = 15 := Option.some.inj (Cl.symm.trans hf) |>.symm
      obtain rfl : fn = Tryz.f15 := (Option.some.inj (Tryz.func15.symm.trans hfn)).symm
      exact ⟨pg_looks, fun j t ht => by
        rw [Tryz.params15] at ht
        have hm : t ∈ [22, 87] := by simpa using Array.mem_of_getElem? ht
        exact (show Tryz.prog.wantsStandIn t = false by simpa using List.all_eq_true.1 DP t hm)⟩)
    Eg
end Go.Proofs.YtkpgggfibljflaaGreatDoor
