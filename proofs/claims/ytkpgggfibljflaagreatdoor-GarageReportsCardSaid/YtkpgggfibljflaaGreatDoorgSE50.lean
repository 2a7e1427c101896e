/- GarageReports, for every input. -/
import Derived.Test.YtkpgggfibljflaaGreatDoorgSE01
import Derived.Test.YtkpgggfibljflaaGreatDoorgSL05
set_option linter.all false
set_option maxRecDepth 100000
namespace Go.Proofs.YtkpgggfibljflaaGreatDoor
open Go Go.RowKit Go.ChangeShapes Go.WideShapes Go.ChangeAt Go.Proofs Go.Proofs.YtkpgggfibljflaaGreatDoor
theorem R1 (n : Nat) (lines : List ByteArray) : (Zc1 n [.lst 9 lines] 0 []).runK some = (E5 n lines).bind fun y => some ⟨false, .bool y.1, [], 0⟩ := by kernel_rfl
set_option maxHeartbeats 800000 in
theorem Lu (os : Os) (started : os.Started) (H : Type) (enc : TypeId × Value → H) :
  ReturnsInHanded {} Tryz.checked os 16 .any (fun w args => (Rows.garageReportsSpec.pre enc Tryz.prog Tryz.f16 Rows.garageReportsRow.domain false w args ∧ laidMetH Tryz.prog Rows.garageReportsRow.laid w) ∧ sizedMet enc Tryz.prog Tryz.f16 (OpenSpec.ofChange Rows.garageReportsSpec) false w args) (Rows.garageReportsSpec.post enc Tryz.prog Tryz.f16 false true false false) := by
 refine P5 (C := Tryz.checked) (X := fun w _ => laidMetH Tryz.prog AbT w) (fun _ _ _ hh h => h.of_heap hh) Ai4 started (by kernel_rfl) Tryz.func16
  (ChangeSpec.witness_shaped (enc := enc) (C := Tryz.checked) (os := os) (X := fun w _ => laidMetH Tryz.prog AbT w) false (World.laidAll Tryz.prog os AbT) #[.slice none 0 0] 8 (World.laidAll_os _ _ _) (World.shaped_of_ZipB (by kernel_rfl) (by kernel_rfl)) (by kernel_rfl) (by kernel_rfl) (by kernel_rfl) (by rw [MakeChecks.laidMetH_plain _ _ _ (by kernel_rfl)]; exact laidMet_laidAll _ (by kernel_rfl) (by kernel_rfl))) ?_
 intro W base args ds gs before hval0 hW hz0 hL hsh
 have hval : ∀ (j : Nat) t v, Tryz.f16.params[j]? = some t → args[j]? = some v → Value.okWide Tryz.prog W .any base t v := hval0
 have hW' := hW
 obtain ⟨p, q, hA0, hV, rfl, _, _⟩ := hW
 have hA : DataW.TrodAll enc Tryz.prog W 0 (fun _ => true) true Tryz.f16.params.toList args.toList ds p := hA0
 have hz : (DataW.weightsEach Tryz.prog (Tryz.f16.params.toList ++ Rows.garageReportsSpec.plain.varTypes Tryz.prog) (ds ++ gs)).all (· ≤ reachBytes) = true := hz0
 rw [Tryz.params16] at hA hval hz
 obtain ⟨v0, vs0, d0, ds0, p0, q0, ha0, rfl, rfl, h0, hA⟩ := trodAll_cons hA
 obtain ⟨rfl, rfl, rfl⟩ := trodAll_nil hA
 obtain rfl : args = #[v0] := by cases args; simp_all
 obtain ⟨rfl, rfl⟩ := trodVars_none hV
 obtain ⟨lines, alines, clines, rfl, hlines, rlines⟩ := AgN Ai6 Tryz.underlying22 (hval 0 22 v0 rfl rfl) h0
 have lenlines : lines.length ≤ 4000000000000000000 := by
  rcases Aeq Tryz.underlying22 h0 with hn | ⟨es, rs, rfl, hl⟩
  · omega
  · have := sized_slice hz (j := 0) (t := 22) (e := 9) rfl rfl Tryz.underlying22
    rw [show Tryz.prog.bytesOf 9 = 16 by kernel_rfl, hl, show reachBytes = 140737488351232 from rfl] at this
    omega
 clear hA0 hval0 hz hz0
 simp only [Zbh] at hW'
 have hlt : ∀ z ∈ p0, z.block < W.heap.size := fun z hz => hW'.lt z (by simpa using hz)
 refine (AcL (JB (lines.length + 3000)) (by decide) (Ai5 hL hsh) ((R1 (lines.length + 3000) lines).trans (by rw [YM (by omega) (by omega)]; rfl)) (by kernel_rfl) (vals := [.slice alines lines.length clines]) ?_).mono fun e W' ⟨he, hb⟩ => ?_
 · exact (Aer hlines Ai7)
 subst he
 have harg0 : DataW.Trod enc Tryz.prog W' 0 (fun b => decide (b < W.heap.size)) true 22 (.slice alines lines.length clines) d0 p0 :=
  Below.trod RU (by kernel_rfl) (of_decide_eq_true (by kernel_rfl)) h0 hb (fun z hz => hlt z hz)
 refine ⟨_, rfl, _, _, _, [], p0, [], hW', ?_, ?_, rfl, hb.frame _, fun h => by cases h⟩
 · exact trodAll_mk1 (shut_bool Tryz.underlying4 _)
 · exact ⟨p0, [], harg0, rfl, by simp⟩
theorem P6 : (Rows.garageReportsRow.wf (OpenSpec.ofChange Rows.garageReportsSpec)) = true := by kernel_rfl
theorem P7 : (Tryz.f16.params.all (Tryz.prog.readableRec ·)) = true := by kernel_rfl
theorem P8 : (namedTie Tryz.prog Rows.garageReportsRow.named Rows.garageReportsSpec.vars) = true := by kernel_rfl
theorem P9 : ((Rows.garageReportsRow.stops == [])) = true := by kernel_rfl
theorem PA : ((Rows.garageReportsRow.knobs == [])) = true := by kernel_rfl
theorem PB : ((Rows.garageReportsRow.inPlace == Tryz.prog.inPlace 16)) = true := by kernel_rfl
theorem Ob : ((Rows.garageReportsRow.unfollowed == Tryz.prog.unfollowed 16)) = true := by kernel_rfl
theorem Od : ((Rows.garageReportsRow.recurses == Tryz.prog.recurses 16)) = true := by kernel_rfl
theorem Oe : ((Rows.garageReportsRow.named == Tryz.prog.varsNamed 16)) = true := by kernel_rfl
theorem Of : ((Rows.garageReportsRow.maps == (Tryz.f16.params.toList ++ Rows.garageReportsSpec.plain.varTypes Tryz.prog).any (Tryz.prog.mapsRec ·))) = true := by kernel_rfl
theorem Og : ((Rows.garageReportsRow.ifaces == (Tryz.f16.params.toList ++ Rows.garageReportsSpec.plain.varTypes Tryz.prog).any (Tryz.prog.ifacesRec ·))) = true := by kernel_rfl
theorem Oh : ((Rows.garageReportsRow.mapsOut == Tryz.prog.mapsAmong Tryz.f16.resultTypes.toList)) = true := by kernel_rfl
theorem Oi : ((Rows.garageReportsRow.loops == (Tryz.f16.params.toList ++ Rows.garageReportsSpec.plain.varTypes Tryz.prog).any (Tryz.prog.loopsFrom ·))) = true := by kernel_rfl
theorem Oj : ((Rows.garageReportsRow.wideKeys == (Tryz.f16.params.toList ++ Rows.garageReportsSpec.plain.varTypes Tryz.prog ++ Tryz.f16.resultTypes.toList).any (Tryz.prog.wideKeysFrom ·))) = true := by kernel_rfl
theorem Ol : (Rows.garageReportsSpec.vars.all (Tryz.prog.varReadable ·)) = true := by kernel_rfl
theorem Om : (Tryz.f16.resultTypes.all (fun t => Tryz.prog.readableRec t && decide (t < Tryz.prog.types.size))) = true := by kernel_rfl
theorem On : ((Rows.garageReportsRow.ifacesOut == Tryz.f16.resultTypes.toList.any (Tryz.prog.ifacesRec ·))) = true := by kernel_rfl
theorem Oo : ((Rows.garageReportsRow.loopsOut == Tryz.f16.resultTypes.toList.any (Tryz.prog.loopsFrom ·))) = true := by kernel_rfl
theorem Oq : (Rows.garageReportsRow.shortTexts.isNone) = true := by kernel_rfl
theorem Ot : ((Rows.garageReportsRow.kinds == (if Rows.garageReportsRow.domain.isEmpty then [] else Tryz.f16.params.toList.map fun t => match Tryz.prog.underlying t with | some (.int k) => some k | _ => none))) = true := by kernel_rfl
theorem Ou : ((Rows.garageReportsRow.pinned == Rows.garageReportsRow.pinnedBy)) = true := by kernel_rfl
theorem Ov : ((Rows.garageReportsRow.veiled == (Tryz.f16.params.toList ++ Rows.garageReportsSpec.plain.varTypes Tryz.prog ++ Tryz.f16.resultTypes.toList).any (Tryz.prog.veiledRec ·))) = true := by kernel_rfl
theorem Ow : (Rows.garageReportsRow.veiledFits Tryz.prog Tryz.f16.params.toList (Tryz.f16.params.toList ++ Rows.garageReportsSpec.plain.varTypes Tryz.prog ++ Tryz.f16.resultTypes.toList)) = true := by kernel_rfl
theorem Lv : joinedFacts Tryz.prog 16 Tryz.f16 Rows.garageReportsSpec Rows.garageReportsRow = true := by
 unfold joinedFacts
 exact B8 (B8 (B8 (B8 (B8 (B8 (B8 (B8 (B8 (B8 (B8 (B8 (B8 (B8 (B8 (B8 (B8 (B8 (B8 (B8 (B8 (B8 (B8 (B8 (B8 (B8 (B8 (B8 (B8 (B8 (B8 (P6) RU) AgO) P7) P8) P9) Aes) PA) Aet) PB) Ob) Od) Oe) Of) Og) Oh) Oi) Oj) Ol) Om) On) Oo) Aeu) Oq) Aev) Aew) Aex) AgP) Ot) Ou) Ov) Ow
theorem Nq : false = Rows.garageReportsRow.goesBy Tryz.prog := by kernel_rfl
theorem PC : Rows.garageReportsRow.wfByText (OpenSpec.ofChange Rows.garageReportsSpec) = true := by kernel_rfl
theorem HU : Tryz.prog.funcNamed "layover/layoverlaw12.GarageReports" = some 16 := by kernel_rfl
theorem MO : ([22].all fun u => !Tryz.prog.wantsStandIn u) = true := by kernel_rfl
theorem Ox : Rows.GarageReportsSaid :=
 OpenClaim.holds_of_wide 16 Tryz.f16 rfl rfl rfl rfl rfl rfl rfl ⟨rfl, rfl, rfl, rfl, rfl⟩ rfl rfl rfl rfl rfl HU Tryz.func16 Lv
  (of_decide_eq_true (by kernel_rfl)) (by unfold Func.isWrapper; rw [if_neg (of_decide_eq_false (by kernel_rfl))]; exact ⟨rfl, rfl⟩)
  (fun os started H enc _ => Lu os started H enc)
theorem garageReports_holds : Rows.GarageReportsCardSaid :=
 Claim7.holds_tied_plain_at .later [] Rows.garageReportsCard.laidKinds true Rows.garageReportsCard.stood.harness true
  Ox (fun _ h => by cases h) PC (fun _ h => by cases h) garageReports_row_tie rfl ⟨rfl, rfl⟩ AgQ rfl
  (fun f fn hf hfn => by
   obtain rfl : f = 16 := Option.some.inj (HU.symm.trans hf) |>.symm
   obtain rfl : fn = Tryz.f16 := (Option.some.inj (Tryz.func16.symm.trans hfn)).symm
   exact ⟨Aey, fun j t ht => by
    rw [Tryz.params16] at ht
    have hm : t ∈ [22] := by simpa using Array.mem_of_getElem? ht
    exact (show Tryz.prog.wantsStandIn t = false by simpa using Za9.1 MO t hm)⟩)
  Nq
end Go.Proofs.YtkpgggfibljflaaGreatDoor
