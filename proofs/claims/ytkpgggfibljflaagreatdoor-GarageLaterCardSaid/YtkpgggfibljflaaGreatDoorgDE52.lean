/- GarageLater, for every input. -/
import Derived.Test.YtkpgggfibljflaaGreatDoorgDE01
import Derived.Test.YtkpgggfibljflaaGreatDoorgDL04
set_option linter.all false
set_option maxRecDepth 100000
namespace Go.Proofs.YtkpgggfibljflaaGreatDoor
open Go Go.RowKit Go.ChangeShapes Go.WideShapes Go.ChangeAt Go.Proofs Go.Proofs.YtkpgggfibljflaaGreatDoor
theorem Adb (n : Nat) (lines : List ByteArray) (more : ByteArray) : (flaw_GarageLater_law n [.lst 9 lines, .str more] 0 []).runK some = (H3 n lines more).bind fun y => some ⟨false, .bool y.1, [], 0⟩ := by kernel_rfl
set_option maxHeartbeats 800000 in
theorem Uh (os : Os) (started : os.Started) (H : Type) (enc : TypeId × Value → H) :
    ReturnsInHanded {} Tryz.checked os 6 .any (fun w args => (Rows.garageLaterSpec.pre enc Tryz.prog Tryz.f6 Rows.garageLaterRow.domain false w args ∧ laidMetH Tryz.prog Rows.garageLaterRow.laid w) ∧ sizedMet enc Tryz.prog Tryz.f6 (OpenSpec.ofChange Rows.garageLaterSpec) false w args) (Rows.garageLaterSpec.post enc Tryz.prog Tryz.f6 false true false false) := by
  refine Hj (C := Tryz.checked) (X := fun w _ => laidMetH Tryz.prog Ot w) (fun _ _ _ hh h => h.of_heap hh) Afb started (by kernel_rfl) Tryz.func6
    (ChangeSpec.witness_shaped (enc := enc) (C := Tryz.checked) (os := os) (X := fun w _ => laidMetH Tryz.prog Ot w) false (World.laidAll Tryz.prog os Ot) #[.slice none 0 0, .string ⟨#[]⟩] 8 (World.laidAll_os _ _ _) (World.shaped_of_ZipB (by kernel_rfl) (by kernel_rfl)) (by kernel_rfl) (by kernel_rfl) (by kernel_rfl) (by rw [MakeChecks.laidMetH_plain _ _ _ (by kernel_rfl)]; exact laidMet_laidAll _ (by kernel_rfl) (by kernel_rfl))) ?_
  intro W base args ds gs before hval0 hW hz0 hL hsh
  have hval : ∀ (j : Nat) t v, Tryz.f6.params[j]? = some t → args[j]? = some v → Value.okWide Tryz.prog W .any base t v := hval0
  have hW' := hW
  obtain ⟨p, q, hA0, hV, rfl, _, _⟩ := hW
  have hA : DataW.TrodAll enc Tryz.prog W 0 (fun _ => true) true Tryz.f6.params.toList args.toList ds p := hA0
  have hz : (DataW.weightsEach Tryz.prog (Tryz.f6.params.toList ++ Rows.garageLaterSpec.plain.varTypes Tryz.prog) (ds ++ gs)).all (· ≤ reachBytes) = true := hz0
  rw [Tryz.params6] at hA hval hz
  obtain ⟨v0, vs0, d0, ds0, p0, q0, ha0, rfl, rfl, h0, hA⟩ := trodAll_cons hA
  obtain ⟨v1, vs1, d1, ds1, p1, q1, rfl, rfl, rfl, h1, hA⟩ := trodAll_cons hA
  obtain ⟨rfl, rfl, rfl⟩ := trodAll_nil hA
  obtain rfl : args = #[v0, v1] := by cases args; simp_all
  obtain ⟨rfl, rfl⟩ := trodVars_none hV
  obtain ⟨lines, alines, clines, rfl, hlines, rlines⟩ := ZM Afd Tryz.underlying22 (hval 0 22 v0 rfl rfl) h0
  obtain ⟨more, rfl, rfl, rfl, wmore⟩ := Go.ChangeMaps.open_string Tryz.underlying9 (hval 1 9 v1 rfl rfl) h1
  have lenlines : lines.length ≤ 4000000000000000000 := by
    rcases UX Tryz.underlying22 h0 with hn | ⟨es, rs, rfl, hl⟩
    · omega
    · have := sized_slice hz (j := 0) (t := 22) (e := 9) rfl rfl Tryz.underlying22
      rw [show Tryz.prog.bytesOf 9 = 16 by kernel_rfl, hl, show reachBytes = 140737488351232 from rfl] at this
      omega
  clear hA0 hval0 hz hz0
  simp only [List.append_nil] at hW'
  have hlt : ∀ z ∈ p0, z.block < W.heap.size := fun z hz => hW'.lt z (by simpa using hz)
  refine (SL (QA (lines.length + 2000)) (by decide) (Afc hL hsh) ((Adb (lines.length + 2000) lines more).trans (by rw [AkZ (by omega) (by omega)]; rfl)) (by kernel_rfl) (vals := [.slice alines lines.length clines, .string more]) ?_).mono fun e W' ⟨he, hb⟩ => ?_
  · exact (UY hlines (AlW Afe))
  subst he
  have harg0 : DataW.Trod enc Tryz.prog W' 0 (fun b => decide (b < W.heap.size)) true 22 (.slice alines lines.length clines) d0 p0 :=
    Below.trod GJ (by kernel_rfl) (of_decide_eq_true (by kernel_rfl)) h0 hb (fun z hz => hlt z hz)
  refine ⟨_, rfl, _, _, _, [], p0, [], hW', ?_, ?_, rfl, hb.frame _, fun h => by cases h⟩
  · exact trodAll_mk1 (shut_bool Tryz.underlying4 _)
  · exact ⟨p0, [], harg0, ⟨[], [], Go.ChangeMaps.shut_string Tryz.underlying9 wmore, rfl, by simp⟩, by simp⟩
theorem Aal : (Rows.garageLaterRow.wf (OpenSpec.ofChange Rows.garageLaterSpec)) = true := by kernel_rfl
theorem Aam : (Tryz.f6.params.all (Tryz.prog.readableRec ·)) = true := by kernel_rfl
theorem Aan : (namedTie Tryz.prog Rows.garageLaterRow.named Rows.garageLaterSpec.vars) = true := by kernel_rfl
theorem Aao : ((Rows.garageLaterRow.stops == [])) = true := by kernel_rfl
theorem Aap : ((Rows.garageLaterRow.knobs == [])) = true := by kernel_rfl
theorem Aaq : ((Rows.garageLaterRow.inPlace == Tryz.prog.inPlace 6)) = true := by kernel_rfl
theorem YI : ((Rows.garageLaterRow.unfollowed == Tryz.prog.unfollowed 6)) = true := by kernel_rfl
theorem YJ : ((Rows.garageLaterRow.recurses == Tryz.prog.recurses 6)) = true := by kernel_rfl
theorem YL : ((Rows.garageLaterRow.named == Tryz.prog.varsNamed 6)) = true := by kernel_rfl
theorem YM : ((Rows.garageLaterRow.maps == (Tryz.f6.params.toList ++ Rows.garageLaterSpec.plain.varTypes Tryz.prog).any (Tryz.prog.mapsRec ·))) = true := by kernel_rfl
theorem YN : ((Rows.garageLaterRow.ifaces == (Tryz.f6.params.toList ++ Rows.garageLaterSpec.plain.varTypes Tryz.prog).any (Tryz.prog.ifacesRec ·))) = true := by kernel_rfl
theorem YO : ((Rows.garageLaterRow.mapsOut == Tryz.prog.mapsAmong Tryz.f6.resultTypes.toList)) = true := by kernel_rfl
theorem YP : ((Rows.garageLaterRow.loops == (Tryz.f6.params.toList ++ Rows.garageLaterSpec.plain.varTypes Tryz.prog).any (Tryz.prog.loopsFrom ·))) = true := by kernel_rfl
theorem YQ : ((Rows.garageLaterRow.wideKeys == (Tryz.f6.params.toList ++ Rows.garageLaterSpec.plain.varTypes Tryz.prog ++ Tryz.f6.resultTypes.toList).any (Tryz.prog.wideKeysFrom ·))) = true := by kernel_rfl
theorem YS : (Rows.garageLaterSpec.vars.all (Tryz.prog.varReadable ·)) = true := by kernel_rfl
theorem YU : (Tryz.f6.resultTypes.all (fun t => Tryz.prog.readableRec t && decide (t < Tryz.prog.types.size))) = true := by kernel_rfl
theorem YV : ((Rows.garageLaterRow.ifacesOut == Tryz.f6.resultTypes.toList.any (Tryz.prog.ifacesRec ·))) = true := by kernel_rfl
theorem YW : ((Rows.garageLaterRow.loopsOut == Tryz.f6.resultTypes.toList.any (Tryz.prog.loopsFrom ·))) = true := by kernel_rfl
theorem YX : (Rows.garageLaterRow.shortTexts.isNone) = true := by kernel_rfl
theorem YY : ((Rows.garageLaterRow.kinds == (if Rows.garageLaterRow.domain.isEmpty then [] else Tryz.f6.params.toList.map fun t => match Tryz.prog.underlying t with | some (.int k) => some k | _ => none))) = true := by kernel_rfl
theorem YZ : ((Rows.garageLaterRow.pinned == Rows.garageLaterRow.pinnedBy)) = true := by kernel_rfl
theorem Za : ((Rows.garageLaterRow.veiled == (Tryz.f6.params.toList ++ Rows.garageLaterSpec.plain.varTypes Tryz.prog ++ Tryz.f6.resultTypes.toList).any (Tryz.prog.veiledRec ·))) = true := by kernel_rfl
theorem Zb : (Rows.garageLaterRow.veiledFits Tryz.prog Tryz.f6.params.toList (Tryz.f6.params.toList ++ Rows.garageLaterSpec.plain.varTypes Tryz.prog ++ Tryz.f6.resultTypes.toList)) = true := by kernel_rfl
theorem Ui : joinedFacts Tryz.prog 6 Tryz.f6 Rows.garageLaterSpec Rows.garageLaterRow = true := by
  unfold joinedFacts
  exact Al (Al (Al (Al (Al (Al (Al (Al (Al (Al (Al (Al (Al (Al (Al (Al (Al (Al (Al (Al (Al (Al (Al (Al (Al (Al (Al (Al (Al (Al (Al (Aal) GJ) ZN) Aam) Aan) Aao) UZ) Aap) Va) Aaq) YI) YJ) YL) YM) YN) YO) YP) YQ) YS) YU) YV) YW) Vb) YX) Vc) Vd) Ve) ZO) YY) YZ) Za) Zb
theorem W6 : false = Rows.garageLaterRow.goesBy Tryz.prog := by kernel_rfl
theorem Aar : Rows.garageLaterRow.wfByText (OpenSpec.ofChange Rows.garageLaterSpec) = true := by kernel_rfl
theorem Nu : Tryz.prog.funcNamed "layover/layoverlaw12.GarageLater" = some 6 := by kernel_rfl
theorem Vh : ([22, 9].all fun u => !Tryz.prog.wantsStandIn u) = true := by kernel_rfl
theorem Zc : Rows.GarageLaterSaid :=
  OpenClaim.holds_of_wide 6 Tryz.f6 rfl rfl rfl rfl rfl rfl rfl ⟨rfl, rfl, rfl, rfl, rfl⟩ rfl rfl rfl rfl rfl Nu Tryz.func6 Ui
    (of_decide_eq_true (by kernel_rfl)) (by unfold Func.isWrapper; rw [if_neg (of_decide_eq_false (by kernel_rfl))]; exact ⟨rfl, rfl⟩)
    (fun os started H enc _ => Uh os started H enc)
theorem garageLater_holds : Rows.GarageLaterCardSaid :=
  Claim7.holds_tied_plain_at .later [] Rows.garageLaterCard.laidKinds true Rows.garageLaterCard.stood.harness true
    Zc (fun _ h => by cases h) Aar (fun _ h => by cases h) garageLater_row_tie rfl ⟨rfl, rfl⟩ ZP rfl
    (fun f fn hf hfn => by
      obtain rfl : f = 6 := Option.some.inj (Nu.symm.trans hf) |>.symm
      obtain rfl : fn = Tryz.f6 := (Option.some.inj (Tryz.func6.symm.trans hfn)).symm
      exact ⟨Vf, fun j t ht => by
        rw [Tryz.params6] at ht
        have hm : t ∈ [22, 9] := by simpa using Array.mem_of_getElem? ht
        exact (show Tryz.prog.wantsStandIn t = false by simpa using List.all_eq_true.1 Vh t hm)⟩)
    W6
end Go.Proofs.YtkpgggfibljflaaGreatDoor
