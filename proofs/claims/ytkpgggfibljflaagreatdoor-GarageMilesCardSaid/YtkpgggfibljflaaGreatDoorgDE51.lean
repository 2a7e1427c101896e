/- GarageMiles, for every input. -/
import Derived.Test.YtkpgggfibljflaaGreatDoorgDE01
import Derived.Test.YtkpgggfibljflaaGreatDoorgDL04
set_option linter.all false
set_option maxRecDepth 100000
namespace Go.Proofs.YtkpgggfibljflaaGreatDoor
open Go Go.RowKit Go.ChangeShapes Go.WideShapes Go.ChangeAt Go.Proofs Go.Proofs.YtkpgggfibljflaaGreatDoor
theorem Ada (n : Nat) (lines : List ByteArray) : (flaw_GarageMiles_law n [.lst 9 lines] 0 []).runK some = (H5 n lines).bind fun y => some ⟨false, .bool y.1, [], 0⟩ := by kernel_rfl
set_option maxHeartbeats 800000 in
theorem Uf (os : Os) (started : os.Started) (H : Type) (enc : TypeId × Value → H) :
    ReturnsInHanded {} Tryz.checked os 9 .any (fun w args => (Rows.garageMilesSpec.pre enc Tryz.prog Tryz.f9 Rows.garageMilesRow.domain false w args ∧ laidMetH Tryz.prog Rows.garageMilesRow.laid w) ∧ sizedMet enc Tryz.prog Tryz.f9 (OpenSpec.ofChange Rows.garageMilesSpec) false w args) (Rows.garageMilesSpec.post enc Tryz.prog Tryz.f9 false true false false) := by
  refine Hj (C := Tryz.checked) (X := fun w _ => laidMetH Tryz.prog Ot w) (fun _ _ _ hh h => h.of_heap hh) Afb started (by kernel_rfl) Tryz.func9
    (ChangeSpec.witness_shaped (enc := enc) (C := Tryz.checked) (os := os) (X := fun w _ => laidMetH Tryz.prog Ot w) false (World.laidAll Tryz.prog os Ot) #[.slice none 0 0] 8 (World.laidAll_os _ _ _) (World.shaped_of_ZipB (by kernel_rfl) (by kernel_rfl)) (by kernel_rfl) (by kernel_rfl) (by kernel_rfl) (by rw [MakeChecks.laidMetH_plain _ _ _ (by kernel_rfl)]; exact laidMet_laidAll _ (by kernel_rfl) (by kernel_rfl))) ?_
  intro W base args ds gs before hval0 hW hz0 hL hsh
  have hval : ∀ (j : Nat) t v, Tryz.f9.params[j]? = some t → args[j]? = some v → Value.okWide Tryz.prog W .any base t v := hval0
  have hW' := hW
  obtain ⟨p, q, hA0, hV, rfl, _, _⟩ := hW
  have hA : DataW.TrodAll enc Tryz.prog W 0 (fun _ => true) true Tryz.f9.params.toList args.toList ds p := hA0
  have hz : (DataW.weightsEach Tryz.prog (Tryz.f9.params.toList ++ Rows.garageMilesSpec.plain.varTypes Tryz.prog) (ds ++ gs)).all (· ≤ reachBytes) = true := hz0
  rw [Tryz.params9] at hA hval hz
  obtain ⟨v0, vs0, d0, ds0, p0, q0, ha0, rfl, rfl, h0, hA⟩ := trodAll_cons hA
  obtain ⟨rfl, rfl, rfl⟩ := trodAll_nil hA
  obtain rfl : args = #[v0] := by cases args; simp_all
  obtain ⟨rfl, rfl⟩ := trodVars_none hV
  obtain ⟨lines, alines, clines, rfl, hlines, rlines⟩ := ZM Afd Tryz.underlying22 (hval 0 22 v0 rfl rfl) h0
  have lenlines : lines.length ≤ 4000000000000000000 := by
    rcases UX Tryz.underlying22 h0 with hn | ⟨es, rs, rfl, hl⟩
    · omega
    · have := sized_slice hz (j := 0) (t := 22) (e := 9) rfl rfl Tryz.underlying22
      rw [show Tryz.prog.bytesOf 9 = 16 by kernel_rfl, hl, show reachBytes = 140737488351232 from rfl] at this
      omega
  clear hA0 hval0 hz hz0
  simp only [List.append_nil] at hW'
  have hlt : ∀ z ∈ p0, z.block < W.heap.size := fun z hz => hW'.lt z (by simpa using hz)
  refine (SL (QI (lines.length + 2000)) (by decide) (Afc hL hsh) ((Ada (lines.length + 2000) lines).trans (by rw [AkW (by omega) (by omega)]; rfl)) (by kernel_rfl) (vals := [.slice alines lines.length clines]) ?_).mono fun e W' ⟨he, hb⟩ => ?_
  · exact (UY hlines Afe)
  subst he
  have harg0 : DataW.Trod enc Tryz.prog W' 0 (fun b => decide (b < W.heap.size)) true 22 (.slice alines lines.length clines) d0 p0 :=
    Below.trod GJ (by kernel_rfl) (of_decide_eq_true (by kernel_rfl)) h0 hb (fun z hz => hlt z hz)
  refine ⟨_, rfl, _, _, _, [], p0, [], hW', ?_, ?_, rfl, hb.frame _, fun h => by cases h⟩
  · exact trodAll_mk1 (shut_bool Tryz.underlying4 _)
  · exact ⟨p0, [], harg0, rfl, by simp⟩
theorem Aae : (Rows.garageMilesRow.wf (OpenSpec.ofChange Rows.garageMilesSpec)) = true := by kernel_rfl
theorem Aaf : (Tryz.f9.params.all (Tryz.prog.readableRec ·)) = true := by kernel_rfl
theorem Aag : (namedTie Tryz.prog Rows.garageMilesRow.named Rows.garageMilesSpec.vars) = true := by kernel_rfl
theorem Aah : ((Rows.garageMilesRow.stops == [])) = true := by kernel_rfl
theorem Aai : ((Rows.garageMilesRow.knobs == [])) = true := by kernel_rfl
theorem Aaj : ((Rows.garageMilesRow.inPlace == Tryz.prog.inPlace 9)) = true := by kernel_rfl
theorem Y0 : ((Rows.garageMilesRow.unfollowed == Tryz.prog.unfollowed 9)) = true := by kernel_rfl
theorem Y1 : ((Rows.garageMilesRow.recurses == Tryz.prog.recurses 9)) = true := by kernel_rfl
theorem Y2 : ((Rows.garageMilesRow.named == Tryz.prog.varsNamed 9)) = true := by kernel_rfl
theorem Y3 : ((Rows.garageMilesRow.maps == (Tryz.f9.params.toList ++ Rows.garageMilesSpec.plain.varTypes Tryz.prog).any (Tryz.prog.mapsRec ·))) = true := by kernel_rfl
theorem Y4 : ((Rows.garageMilesRow.ifaces == (Tryz.f9.params.toList ++ Rows.garageMilesSpec.plain.varTypes Tryz.prog).any (Tryz.prog.ifacesRec ·))) = true := by kernel_rfl
theorem Y5 : ((Rows.garageMilesRow.mapsOut == Tryz.prog.mapsAmong Tryz.f9.resultTypes.toList)) = true := by kernel_rfl
theorem Y6 : ((Rows.garageMilesRow.loops == (Tryz.f9.params.toList ++ Rows.garageMilesSpec.plain.varTypes Tryz.prog).any (Tryz.prog.loopsFrom ·))) = true := by kernel_rfl
theorem Y7 : ((Rows.garageMilesRow.wideKeys == (Tryz.f9.params.toList ++ Rows.garageMilesSpec.plain.varTypes Tryz.prog ++ Tryz.f9.resultTypes.toList).any (Tryz.prog.wideKeysFrom ·))) = true := by kernel_rfl
theorem Y8 : (Rows.garageMilesSpec.vars.all (Tryz.prog.varReadable ·)) = true := by kernel_rfl
theorem Y9 : (Tryz.f9.resultTypes.all (fun t => Tryz.prog.readableRec t && decide (t < Tryz.prog.types.size))) = true := by kernel_rfl
theorem YA : ((Rows.garageMilesRow.ifacesOut == Tryz.f9.resultTypes.toList.any (Tryz.prog.ifacesRec ·))) = true := by kernel_rfl
theorem YB : ((Rows.garageMilesRow.loopsOut == Tryz.f9.resultTypes.toList.any (Tryz.prog.loopsFrom ·))) = true := by kernel_rfl
theorem YC : (Rows.garageMilesRow.shortTexts.isNone) = true := by kernel_rfl
theorem YD : ((Rows.garageMilesRow.kinds == (if Rows.garageMilesRow.domain.isEmpty then [] else Tryz.f9.params.toList.map fun t => match Tryz.prog.underlying t with | some (.int k) => some k | _ => none))) = true := by kernel_rfl
theorem YE : ((Rows.garageMilesRow.pinned == Rows.garageMilesRow.pinnedBy)) = true := by kernel_rfl
theorem YF : ((Rows.garageMilesRow.veiled == (Tryz.f9.params.toList ++ Rows.garageMilesSpec.plain.varTypes Tryz.prog ++ Tryz.f9.resultTypes.toList).any (Tryz.prog.veiledRec ·))) = true := by kernel_rfl
theorem YG : (Rows.garageMilesRow.veiledFits Tryz.prog Tryz.f9.params.toList (Tryz.f9.params.toList ++ Rows.garageMilesSpec.plain.varTypes Tryz.prog ++ Tryz.f9.resultTypes.toList)) = true := by kernel_rfl
theorem Ug : joinedFacts Tryz.prog 9 Tryz.f9 Rows.garageMilesSpec Rows.garageMilesRow = true := by
  unfold joinedFacts
  exact Al (Al (Al (Al (Al (Al (Al (Al (Al (Al (Al (Al (Al (Al (Al (Al (Al (Al (Al (Al (Al (Al (Al (Al (Al (Al (Al (Al (Al (Al (Al (Aae) GJ) ZN) Aaf) Aag) Aah) UZ) Aai) Va) Aaj) Y0) Y1) Y2) Y3) Y4) Y5) Y6) Y7) Y8) Y9) YA) YB) Vb) YC) Vc) Vd) Ve) ZO) YD) YE) YF) YG
theorem W5 : false = Rows.garageMilesRow.goesBy Tryz.prog := by kernel_rfl
theorem Aak : Rows.garageMilesRow.wfByText (OpenSpec.ofChange Rows.garageMilesSpec) = true := by kernel_rfl
theorem Nt : Tryz.prog.funcNamed "layover/layoverlaw12.GarageMiles" = some 9 := by kernel_rfl
theorem Vg : ([22].all fun u => !Tryz.prog.wantsStandIn u) = true := by kernel_rfl
theorem YH : Rows.GarageMilesSaid :=
  OpenClaim.holds_of_wide 9 Tryz.f9 rfl rfl rfl rfl rfl rfl rfl ⟨rfl, rfl, rfl, rfl, rfl⟩ rfl rfl rfl rfl rfl Nt Tryz.func9 Ug
    (of_decide_eq_true (by kernel_rfl)) (by unfold Func.isWrapper; rw [if_neg (of_decide_eq_false (by kernel_rfl))]; exact ⟨rfl, rfl⟩)
    (fun os started H enc _ => Uf os started H enc)
theorem garageMiles_holds : Rows.GarageMilesCardSaid :=
  Claim7.holds_tied_plain_at .later [] Rows.garageMilesCard.laidKinds true Rows.garageMilesCard.stood.harness true
    YH (fun _ h => by cases h) Aak (fun _ h => by cases h) garageMiles_row_tie rfl ⟨rfl, rfl⟩ ZP rfl
    (fun f fn hf hfn => by
      obtain rfl : f = 9 := Option.some.inj (Nt.symm.trans hf) |>.symm
      obtain rfl : fn = Tryz.f9 := (Option.some.inj (Tryz.func9.symm.trans hfn)).symm
      exact ⟨Vf, fun j t ht => by
        rw [Tryz.params9] at ht
        have hm : t ∈ [22] := by simpa using Array.mem_of_getElem? ht
        exact (show Tryz.prog.wantsStandIn t = false by simpa using List.all_eq_true.1 Vg t hm)⟩)
    W5
end Go.Proofs.YtkpgggfibljflaaGreatDoor
