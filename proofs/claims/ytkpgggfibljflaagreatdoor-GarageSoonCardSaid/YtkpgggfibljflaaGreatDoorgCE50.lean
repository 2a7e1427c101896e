/- GarageSoon, for every input. -/
import Derived.Test.YtkpgggfibljflaaGreatDoorGaE01
import Derived.Test.YtkpgggfibljflaaGreatDoorgCL04
set_option linter.all false
set_option maxRecDepth 100000
namespace Go.Proofs.YtkpgggfibljflaaGreatDoor
open Go Go.RowKit Go.ChangeShapes Go.WideShapes Go.ChangeAt Go.Proofs Go.Proofs.YtkpgggfibljflaaGreatDoor
theorem Hj (n : Nat) (lines : List ByteArray) : (flaw_GarageSoon_law n [.lst 9 lines] 0 []).runK some = (Bd n lines).bind fun y => some ⟨false, .bool y.1, [], 0⟩ := by kernel_rfl
set_option maxHeartbeats 800000 in
theorem DV (os : Os) (started : os.Started) (H : Type) (enc : TypeId × Value → H) :
    ReturnsInHanded {} Tryz.checked os 5 .any (fun w args => (Rows.garageSoonSpec.pre enc Tryz.prog Tryz.f5 Rows.garageSoonRow.domain false w args ∧ laidMetH Tryz.prog Rows.garageSoonRow.laid w) ∧ sizedMet enc Tryz.prog Tryz.f5 (OpenSpec.ofChange Rows.garageSoonSpec) false w args) (Rows.garageSoonSpec.post enc Tryz.prog Tryz.f5 false true false false) := by
  refine returnsIn_shaped (C := Tryz.checked) (X := fun w _ => laidMetH Tryz.prog laidG w) (fun _ _ _ hh h => h.of_heap hh) tryOwn started (by kernel_rfl) Tryz.func5
    (ChangeSpec.witness_shaped (enc := enc) (C := Tryz.checked) (os := os) (X := fun w _ => laidMetH Tryz.prog laidG w) false (World.laidAll Tryz.prog os laidG) #[.slice none 0 0] 8 (World.laidAll_os _ _ _) (World.shaped_of_ZipB (by kernel_rfl) (by kernel_rfl)) (by kernel_rfl) (by kernel_rfl) (by kernel_rfl) (by rw [MakeChecks.laidMetH_plain _ _ _ (by kernel_rfl)]; exact laidMet_laidAll _ (by kernel_rfl) (by kernel_rfl))) ?_
  intro W base args ds gs before hval0 hW hz0 hL hsh
  have hval : ∀ (j : Nat) t v, Tryz.f5.params[j]? = some t → args[j]? = some v → Value.okWide Tryz.prog W .any base t v := hval0
  have hW' := hW
  obtain ⟨p, q, hA0, hV, rfl, _, _⟩ := hW
  have hA : DataW.TrodAll enc Tryz.prog W 0 (fun _ => true) true Tryz.f5.params.toList args.toList ds p := hA0
  have hz : (DataW.weightsEach Tryz.prog (Tryz.f5.params.toList ++ Rows.garageSoonSpec.plain.varTypes Tryz.prog) (ds ++ gs)).all (· ≤ reachBytes) = true := hz0
  rw [Tryz.params5] at hA hval hz
  obtain ⟨v0, vs0, d0, ds0, p0, q0, ha0, rfl, rfl, h0, hA⟩ := trodAll_cons hA
  obtain ⟨rfl, rfl, rfl⟩ := trodAll_nil hA
  obtain rfl : args = #[v0] := by cases args; simp_all
  obtain ⟨rfl, rfl⟩ := trodVars_none hV
  obtain ⟨lines, alines, clines, rfl, hlines, rlines⟩ := open_sl opStrs Tryz.underlying22 (hval 0 22 v0 rfl rfl) h0
  have lenlines : lines.length ≤ 4000000000000000000 := by
    rcases sl_shape Tryz.underlying22 h0 with hn | ⟨es, rs, rfl, hl⟩
    · omega
    · have := sized_slice hz (j := 0) (t := 22) (e := 9) rfl rfl Tryz.underlying22
      rw [show Tryz.prog.bytesOf 9 = 16 by kernel_rfl, hl, show reachBytes = 140737488351232 from rfl] at this
      omega
  clear hA0 hval0 hz hz0
  simp only [List.append_nil] at hW'
  have hlt : ∀ z ∈ p0, z.block < W.heap.size := fun z hz => hW'.lt z (by simpa using hz)
  refine (call_true (CZ (lines.length + 1800)) (by decide) (glP_of hL hsh) ((Hj (lines.length + 1800) lines).trans (by rw [JI (by omega) (by omega)]; rfl)) (by kernel_rfl) (vals := [.slice alines lines.length clines]) ?_).mono fun e W' ⟨he, hb⟩ => ?_
  · exact (dens_lst hlines endNil)
  subst he
  have harg0 : DataW.Trod enc Tryz.prog W' 0 (fun b => decide (b < W.heap.size)) true 22 (.slice alines lines.length clines) d0 p0 :=
    Below.trod tryLaidOut (by kernel_rfl) (of_decide_eq_true (by kernel_rfl)) h0 hb (fun z hz => hlt z hz)
  refine ⟨_, rfl, _, _, _, [], p0, [], hW', ?_, ?_, rfl, hb.frame _, fun h => by cases h⟩
  · exact trodAll_mk1 (shut_bool Tryz.underlying4 _)
  · exact ⟨p0, [], harg0, rfl, by simp⟩
theorem Gx : (Rows.garageSoonRow.wf (OpenSpec.ofChange Rows.garageSoonSpec)) = true := by kernel_rfl
theorem Gy : (Tryz.f5.params.all (Tryz.prog.readableRec ·)) = true := by kernel_rfl
theorem Gz : (namedTie Tryz.prog Rows.garageSoonRow.named Rows.garageSoonSpec.vars) = true := by kernel_rfl
theorem G0 : ((Rows.garageSoonRow.stops == [])) = true := by kernel_rfl
theorem G1 : ((Rows.garageSoonRow.knobs == [])) = true := by kernel_rfl
theorem G2 : ((Rows.garageSoonRow.inPlace == Tryz.prog.inPlace 5)) = true := by kernel_rfl
theorem F6 : ((Rows.garageSoonRow.unfollowed == Tryz.prog.unfollowed 5)) = true := by kernel_rfl
theorem F7 : ((Rows.garageSoonRow.recurses == Tryz.prog.recurses 5)) = true := by kernel_rfl
theorem F8 : ((Rows.garageSoonRow.named == Tryz.prog.varsNamed 5)) = true := by kernel_rfl
theorem F9 : ((Rows.garageSoonRow.maps == (Tryz.f5.params.toList ++ Rows.garageSoonSpec.plain.varTypes Tryz.prog).any (Tryz.prog.mapsRec ·))) = true := by kernel_rfl
theorem FA : ((Rows.garageSoonRow.ifaces == (Tryz.f5.params.toList ++ Rows.garageSoonSpec.plain.varTypes Tryz.prog).any (Tryz.prog.ifacesRec ·))) = true := by kernel_rfl
theorem FB : ((Rows.garageSoonRow.mapsOut == Tryz.prog.mapsAmong Tryz.f5.resultTypes.toList)) = true := by kernel_rfl
theorem FC : ((Rows.garageSoonRow.loops == (Tryz.f5.params.toList ++ Rows.garageSoonSpec.plain.varTypes Tryz.prog).any (Tryz.prog.loopsFrom ·))) = true := by kernel_rfl
theorem FE : ((Rows.garageSoonRow.wideKeys == (Tryz.f5.params.toList ++ Rows.garageSoonSpec.plain.varTypes Tryz.prog ++ Tryz.f5.resultTypes.toList).any (Tryz.prog.wideKeysFrom ·))) = true := by kernel_rfl
theorem FF : (Rows.garageSoonSpec.vars.all (Tryz.prog.varReadable ·)) = true := by kernel_rfl
theorem FG : (Tryz.f5.resultTypes.all (fun t => Tryz.prog.readableRec t && decide (t < Tryz.prog.types.size))) = true := by kernel_rfl
theorem FH : ((Rows.garageSoonRow.ifacesOut == Tryz.f5.resultTypes.toList.any (Tryz.prog.ifacesRec ·))) = true := by kernel_rfl
theorem FI : ((Rows.garageSoonRow.loopsOut == Tryz.f5.resultTypes.toList.any (Tryz.prog.loopsFrom ·))) = true := by kernel_rfl
theorem FJ : (Rows.garageSoonRow.shortTexts.isNone) = true := by kernel_rfl
theorem FK : ((Rows.garageSoonRow.kinds == (if Rows.garageSoonRow.domain.isEmpty then [] else Tryz.f5.params.toList.map fun t => match Tryz.prog.underlying t with | some (.int k) => some k | _ => none))) = true := by kernel_rfl
theorem FL : ((Rows.garageSoonRow.pinned == Rows.garageSoonRow.pinnedBy)) = true := by kernel_rfl
theorem FM : ((Rows.garageSoonRow.veiled == (Tryz.f5.params.toList ++ Rows.garageSoonSpec.plain.varTypes Tryz.prog ++ Tryz.f5.resultTypes.toList).any (Tryz.prog.veiledRec ·))) = true := by kernel_rfl
theorem FN : (Rows.garageSoonRow.veiledFits Tryz.prog Tryz.f5.params.toList (Tryz.f5.params.toList ++ Rows.garageSoonSpec.plain.varTypes Tryz.prog ++ Tryz.f5.resultTypes.toList)) = true := by kernel_rfl
theorem DW : joinedFacts Tryz.prog 5 Tryz.f5 Rows.garageSoonSpec Rows.garageSoonRow = true := by
  unfold joinedFacts
  exact and_ok (and_ok (and_ok (and_ok (and_ok (and_ok (and_ok (and_ok (and_ok (and_ok (and_ok (and_ok (and_ok (and_ok (and_ok (and_ok (and_ok (and_ok (and_ok (and_ok (and_ok (and_ok (and_ok (and_ok (and_ok (and_ok (and_ok (and_ok (and_ok (and_ok (and_ok (Gx) tryLaidOut) pg_maps) Gy) Gz) G0) pg_stops) G1) pg_knobs) G2) F6) F7) F8) F9) FA) FB) FC) FE) FF) FG) FH) FI) pg_plain) FJ) pg_heard) pg_enter) pg_lifts) pg_make) FK) FL) FM) FN
theorem Fl : false = Rows.garageSoonRow.goesBy Tryz.prog := by kernel_rfl
theorem G3 : Rows.garageSoonRow.wfByText (OpenSpec.ofChange Rows.garageSoonSpec) = true := by kernel_rfl
theorem Cr : Tryz.prog.funcNamed "layover/layoverlaw12.GarageSoon" = some 5 := by kernel_rfl
theorem E0 : ([22].all fun u => !Tryz.prog.wantsStandIn u) = true := by kernel_rfl
theorem FO : Rows.GarageSoonSaid :=
  OpenClaim.holds_of_wide 5 Tryz.f5 rfl rfl rfl rfl rfl rfl rfl ⟨rfl, rfl, rfl, rfl, rfl⟩ rfl rfl rfl rfl rfl Cr Tryz.func5 DW
    (of_decide_eq_true (by kernel_rfl)) (by unfold Func.isWrapper; rw [if_neg (of_decide_eq_false (by kernel_rfl))]; exact ⟨rfl, rfl⟩)
    (fun os started H enc _ => DV os started H enc)
theorem garageSoon_holds : Rows.GarageSoonCardSaid :=
  Claim7.holds_tied_plain_at .later [] Rows.garageSoonCard.laidKinds true Rows.garageSoonCard.stood.harness true
    FO (fun _ h => by cases h) G3 (fun _ h => by cases h) garageSoon_row_tie rfl ⟨rfl, rfl⟩ pg_main rfl
    (fun f fn hf hfn => by
      obtain rfl : f = 5 := Option.some.inj (Cr.symm.trans hf) |>.symm
      obtain rfl : fn = Tryz.f5 := (Option.some.inj (Tryz.func5.symm.trans hfn)).symm
      exact ⟨pg_looks, fun j t ht => by
        rw [Tryz.params5] at ht
        have hm : t ∈ [22] := by simpa using Array.mem_of_getElem? ht
        exact (show Tryz.prog.wantsStandIn t = false by simpa using List.all_eq_true.1 E0 t hm)⟩)
    Fl
end Go.Proofs.YtkpgggfibljflaaGreatDoor
