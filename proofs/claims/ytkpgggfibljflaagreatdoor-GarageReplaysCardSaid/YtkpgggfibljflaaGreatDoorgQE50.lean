/- GarageReplays, for every input. -/
import Derived.Test.YtkpgggfibljflaaGreatDoorgQE01
import Derived.Test.YtkpgggfibljflaaGreatDoorgQL04
set_option linter.all false
set_option maxRecDepth 100000
namespace Go.Proofs.YtkpgggfibljflaaGreatDoor
open Go Go.RowKit Go.ChangeShapes Go.WideShapes Go.ChangeAt Go.Proofs Go.Proofs.YtkpgggfibljflaaGreatDoor
theorem Oy (n : Nat) (lines : List ByteArray) : (Zci n [.lst 9 lines] 0 []).runK some = (D0 n lines).bind fun y => some ⟨false, .bool y.1, [], 0⟩ := by kernel_rfl
set_option maxHeartbeats 800000 in
theorem Jn (os : Os) (started : os.Started) (H : Type) (enc : TypeId × Value → H) :
  ReturnsInHanded {} Tryz.checked os 17 .any (fun w args => (Rows.garageReplaysSpec.pre enc Tryz.prog Tryz.f17 Rows.garageReplaysRow.domain false w args ∧ laidMetH Tryz.prog Rows.garageReplaysRow.laid w) ∧ sizedMet enc Tryz.prog Tryz.f17 (OpenSpec.ofChange Rows.garageReplaysSpec) false w args) (Rows.garageReplaysSpec.post enc Tryz.prog Tryz.f17 false true false false) := by
 refine MO (C := Tryz.checked) (X := fun w _ => laidMetH Tryz.prog XE w) (fun _ _ _ hh h => h.of_heap hh) AdG started (by kernel_rfl) Tryz.func17
  (ChangeSpec.witness_shaped (enc := enc) (C := Tryz.checked) (os := os) (X := fun w _ => laidMetH Tryz.prog XE w) false (World.laidAll Tryz.prog os XE) #[.slice none 0 0] 8 (World.laidAll_os _ _ _) (World.shaped_of_ZipB (by kernel_rfl) (by kernel_rfl)) (by kernel_rfl) (by kernel_rfl) (by kernel_rfl) (by rw [MakeChecks.laidMetH_plain _ _ _ (by kernel_rfl)]; exact laidMet_laidAll _ (by kernel_rfl) (by kernel_rfl))) ?_
 intro W base args ds gs before hval0 hW hz0 hL hsh
 have hval : ∀ (j : Nat) t v, Tryz.f17.params[j]? = some t → args[j]? = some v → Value.okWide Tryz.prog W .any base t v := hval0
 have hW' := hW
 obtain ⟨p, q, hA0, hV, rfl, _, _⟩ := hW
 have hA : DataW.TrodAll enc Tryz.prog W 0 (fun _ => true) true Tryz.f17.params.toList args.toList ds p := hA0
 have hz : (DataW.weightsEach Tryz.prog (Tryz.f17.params.toList ++ Rows.garageReplaysSpec.plain.varTypes Tryz.prog) (ds ++ gs)).all (· ≤ reachBytes) = true := hz0
 rw [Tryz.params17] at hA hval hz
 obtain ⟨v0, vs0, d0, ds0, p0, q0, ha0, rfl, rfl, h0, hA⟩ := trodAll_cons hA
 obtain ⟨rfl, rfl, rfl⟩ := trodAll_nil hA
 obtain rfl : args = #[v0] := by cases args; simp_all
 obtain ⟨rfl, rfl⟩ := trodVars_none hV
 obtain ⟨lines, alines, clines, rfl, hlines, rlines⟩ := Acm AdI Tryz.underlying22 (hval 0 22 v0 rfl rfl) h0
 have lenlines : lines.length ≤ 4000000000000000000 := by
  rcases ZS Tryz.underlying22 h0 with hn | ⟨es, rs, rfl, hl⟩
  · omega
  · have := sized_slice hz (j := 0) (t := 22) (e := 9) rfl rfl Tryz.underlying22
    rw [show Tryz.prog.bytesOf 9 = 16 by kernel_rfl, hl, show reachBytes = 140737488351232 from rfl] at this
    omega
 clear hA0 hval0 hz hz0
 simp only [Zbd] at hW'
 have hlt : ∀ z ∈ p0, z.block < W.heap.size := fun z hz => hW'.lt z (by simpa using hz)
 refine (Y3 (HF (lines.length + 3000)) (by decide) (AdH hL hsh) ((Oy (lines.length + 3000) lines).trans (by rw [UP (by omega) (by omega)]; rfl)) (by kernel_rfl) (vals := [.slice alines lines.length clines]) ?_).mono fun e W' ⟨he, hb⟩ => ?_
 · exact (ZT hlines AdJ)
 subst he
 have harg0 : DataW.Trod enc Tryz.prog W' 0 (fun b => decide (b < W.heap.size)) true 22 (.slice alines lines.length clines) d0 p0 :=
  Below.trod OO (by kernel_rfl) (of_decide_eq_true (by kernel_rfl)) h0 hb (fun z hz => hlt z hz)
 refine ⟨_, rfl, _, _, _, [], p0, [], hW', ?_, ?_, rfl, hb.frame _, fun h => by cases h⟩
 · exact trodAll_mk1 (shut_bool Tryz.underlying4 _)
 · exact ⟨p0, [], harg0, rfl, by simp⟩
theorem MP : (Rows.garageReplaysRow.wf (OpenSpec.ofChange Rows.garageReplaysSpec)) = true := by kernel_rfl
theorem MQ : (Tryz.f17.params.all (Tryz.prog.readableRec ·)) = true := by kernel_rfl
theorem MR : (namedTie Tryz.prog Rows.garageReplaysRow.named Rows.garageReplaysSpec.vars) = true := by kernel_rfl
theorem MS : ((Rows.garageReplaysRow.stops == [])) = true := by kernel_rfl
theorem MT : ((Rows.garageReplaysRow.knobs == [])) = true := by kernel_rfl
theorem MU : ((Rows.garageReplaysRow.inPlace == Tryz.prog.inPlace 17)) = true := by kernel_rfl
theorem L4 : ((Rows.garageReplaysRow.unfollowed == Tryz.prog.unfollowed 17)) = true := by kernel_rfl
theorem L5 : ((Rows.garageReplaysRow.recurses == Tryz.prog.recurses 17)) = true := by kernel_rfl
theorem L6 : ((Rows.garageReplaysRow.named == Tryz.prog.varsNamed 17)) = true := by kernel_rfl
theorem L7 : ((Rows.garageReplaysRow.maps == (Tryz.f17.params.toList ++ Rows.garageReplaysSpec.plain.varTypes Tryz.prog).any (Tryz.prog.mapsRec ·))) = true := by kernel_rfl
theorem L8 : ((Rows.garageReplaysRow.ifaces == (Tryz.f17.params.toList ++ Rows.garageReplaysSpec.plain.varTypes Tryz.prog).any (Tryz.prog.ifacesRec ·))) = true := by kernel_rfl
theorem L9 : ((Rows.garageReplaysRow.mapsOut == Tryz.prog.mapsAmong Tryz.f17.resultTypes.toList)) = true := by kernel_rfl
theorem LA : ((Rows.garageReplaysRow.loops == (Tryz.f17.params.toList ++ Rows.garageReplaysSpec.plain.varTypes Tryz.prog).any (Tryz.prog.loopsFrom ·))) = true := by kernel_rfl
theorem LC : ((Rows.garageReplaysRow.wideKeys == (Tryz.f17.params.toList ++ Rows.garageReplaysSpec.plain.varTypes Tryz.prog ++ Tryz.f17.resultTypes.toList).any (Tryz.prog.wideKeysFrom ·))) = true := by kernel_rfl
theorem LD : (Rows.garageReplaysSpec.vars.all (Tryz.prog.varReadable ·)) = true := by kernel_rfl
theorem LF : (Tryz.f17.resultTypes.all (fun t => Tryz.prog.readableRec t && decide (t < Tryz.prog.types.size))) = true := by kernel_rfl
theorem LG : ((Rows.garageReplaysRow.ifacesOut == Tryz.f17.resultTypes.toList.any (Tryz.prog.ifacesRec ·))) = true := by kernel_rfl
theorem LH : ((Rows.garageReplaysRow.loopsOut == Tryz.f17.resultTypes.toList.any (Tryz.prog.loopsFrom ·))) = true := by kernel_rfl
theorem LJ : (Rows.garageReplaysRow.shortTexts.isNone) = true := by kernel_rfl
theorem LK : ((Rows.garageReplaysRow.kinds == (if Rows.garageReplaysRow.domain.isEmpty then [] else Tryz.f17.params.toList.map fun t => match Tryz.prog.underlying t with | some (.int k) => some k | _ => none))) = true := by kernel_rfl
theorem LL : ((Rows.garageReplaysRow.pinned == Rows.garageReplaysRow.pinnedBy)) = true := by kernel_rfl
theorem LM : ((Rows.garageReplaysRow.veiled == (Tryz.f17.params.toList ++ Rows.garageReplaysSpec.plain.varTypes Tryz.prog ++ Tryz.f17.resultTypes.toList).any (Tryz.prog.veiledRec ·))) = true := by kernel_rfl
theorem LN : (Rows.garageReplaysRow.veiledFits Tryz.prog Tryz.f17.params.toList (Tryz.f17.params.toList ++ Rows.garageReplaysSpec.plain.varTypes Tryz.prog ++ Tryz.f17.resultTypes.toList)) = true := by kernel_rfl
theorem Jo : joinedFacts Tryz.prog 17 Tryz.f17 Rows.garageReplaysSpec Rows.garageReplaysRow = true := by
 unfold joinedFacts
 exact Bn (Bn (Bn (Bn (Bn (Bn (Bn (Bn (Bn (Bn (Bn (Bn (Bn (Bn (Bn (Bn (Bn (Bn (Bn (Bn (Bn (Bn (Bn (Bn (Bn (Bn (Bn (Bn (Bn (Bn (Bn (MP) OO) Acn) MQ) MR) MS) ZU) MT) ZV) MU) L4) L5) L6) L7) L8) L9) LA) LC) LD) LF) LG) LH) ZW) LJ) ZX) ZY) ZZ) Aco) LK) LL) LM) LN
theorem KQ : false = Rows.garageReplaysRow.goesBy Tryz.prog := by kernel_rfl
theorem MV : Rows.garageReplaysRow.wfByText (OpenSpec.ofChange Rows.garageReplaysSpec) = true := by kernel_rfl
theorem Gk : Tryz.prog.funcNamed "layover/layoverlaw12.GarageReplays" = some 17 := by kernel_rfl
theorem Kx : ([22].all fun u => !Tryz.prog.wantsStandIn u) = true := by kernel_rfl
theorem LO : Rows.GarageReplaysSaid :=
 OpenClaim.holds_of_wide 17 Tryz.f17 rfl rfl rfl rfl rfl rfl rfl ⟨rfl, rfl, rfl, rfl, rfl⟩ rfl rfl rfl rfl rfl Gk Tryz.func17 Jo
  (of_decide_eq_true (by kernel_rfl)) (by unfold Func.isWrapper; rw [if_neg (of_decide_eq_false (by kernel_rfl))]; exact ⟨rfl, rfl⟩)
  (fun os started H enc _ => Jn os started H enc)
theorem garageReplays_holds : Rows.GarageReplaysCardSaid :=
 Claim7.holds_tied_plain_at .later [] Rows.garageReplaysCard.laidKinds true Rows.garageReplaysCard.stood.harness true
  LO (fun _ h => by cases h) MV (fun _ h => by cases h) garageReplays_row_tie rfl ⟨rfl, rfl⟩ Acp rfl
  (fun f fn hf hfn => by
   obtain rfl : f = 17 := Option.some.inj (Gk.symm.trans hf) |>.symm
   obtain rfl : fn = Tryz.f17 := (Option.some.inj (Tryz.func17.symm.trans hfn)).symm
   exact ⟨Aaa, fun j t ht => by
    rw [Tryz.params17] at ht
    have hm : t ∈ [22] := by simpa using Array.mem_of_getElem? ht
    exact (show Tryz.prog.wantsStandIn t = false by simpa using ZaE.1 Kx t hm)⟩)
  KQ
end Go.Proofs.YtkpgggfibljflaaGreatDoor
