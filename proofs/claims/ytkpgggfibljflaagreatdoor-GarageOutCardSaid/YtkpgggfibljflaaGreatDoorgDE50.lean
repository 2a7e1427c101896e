/- GarageOut, for every input. -/
import Derived.Test.YtkpgggfibljflaaGreatDoorgDE01
import Derived.Test.YtkpgggfibljflaaGreatDoorgDL04
set_option linter.all false
set_option maxRecDepth 100000
namespace Go.Proofs.YtkpgggfibljflaaGreatDoor
open Go Go.RowKit Go.ChangeShapes Go.WideShapes Go.ChangeAt Go.Proofs Go.Proofs.YtkpgggfibljflaaGreatDoor
theorem Ag6 (n : Nat) (lines : List ByteArray) (at_ : Int) : (flaw_GarageOut_law n [.lst 9 lines, .int .u8 at_] 0 []).runK some = (JS n lines ⟨at_⟩).bind fun y => some ⟨false, .bool y.1, [], 0⟩ := by kernel_rfl
set_option maxHeartbeats 800000 in
theorem Wz (os : Os) (started : os.Started) (H : Type) (enc : TypeId × Value → H) :
    ReturnsInHanded {} Tryz.checked os 4 .any (fun w args => (Rows.garageOutSpec.pre enc Tryz.prog Tryz.f4 Rows.garageOutRow.domain false w args ∧ laidMetH Tryz.prog Rows.garageOutRow.laid w) ∧ sizedMet enc Tryz.prog Tryz.f4 (OpenSpec.ofChange Rows.garageOutSpec) false w args) (Rows.garageOutSpec.post enc Tryz.prog Tryz.f4 false true false false) := by
  refine Hj (C := Tryz.checked) (X := fun w _ => laidMetH Tryz.prog Ot w) (fun _ _ _ hh h => h.of_heap hh) Afb started (by kernel_rfl) Tryz.func4
    (ChangeSpec.witness_shaped (enc := enc) (C := Tryz.checked) (os := os) (X := fun w _ => laidMetH Tryz.prog Ot w) false (World.laidAll Tryz.prog os Ot) #[.slice none 0 0, .int .u8 0] 8 (World.laidAll_os _ _ _) (World.shaped_of_ZipB (by kernel_rfl) (by kernel_rfl)) (by kernel_rfl) (by kernel_rfl) (by kernel_rfl) (by rw [MakeChecks.laidMetH_plain _ _ _ (by kernel_rfl)]; exact laidMet_laidAll _ (by kernel_rfl) (by kernel_rfl))) ?_
  intro W base args ds gs before hval0 hW hz0 hL hsh
  have hval : ∀ (j : Nat) t v, Tryz.f4.params[j]? = some t → args[j]? = some v → Value.okWide Tryz.prog W .any base t v := hval0
  have hW' := hW
  obtain ⟨p, q, hA0, hV, rfl, _, _⟩ := hW
  have hA : DataW.TrodAll enc Tryz.prog W 0 (fun _ => true) true Tryz.f4.params.toList args.toList ds p := hA0
  have hz : (DataW.weightsEach Tryz.prog (Tryz.f4.params.toList ++ Rows.garageOutSpec.plain.varTypes Tryz.prog) (ds ++ gs)).all (· ≤ reachBytes) = true := hz0
  rw [Tryz.params4] at hA hval hz
  obtain ⟨v0, vs0, d0, ds0, p0, q0, ha0, rfl, rfl, h0, hA⟩ := trodAll_cons hA
  obtain ⟨v1, vs1, d1, ds1, p1, q1, rfl, rfl, rfl, h1, hA⟩ := trodAll_cons hA
  obtain ⟨rfl, rfl, rfl⟩ := trodAll_nil hA
  obtain rfl : args = #[v0, v1] := by cases args; simp_all
  obtain ⟨rfl, rfl⟩ := trodVars_none hV
  obtain ⟨lines, alines, clines, rfl, hlines, rlines⟩ := ZM Afd Tryz.underlying22 (hval 0 22 v0 rfl rfl) h0
  obtain ⟨at_, rfl, rfl, rfl, wat_⟩ := open_int Tryz.underlying5 (hval 1 5 v1 rfl rfl) h1
  have lenlines : lines.length ≤ 4000000000000000000 := by
    rcases UX Tryz.underlying22 h0 with hn | ⟨es, rs, rfl, hl⟩
    · omega
    · have := sized_slice hz (j := 0) (t := 22) (e := 9) rfl rfl Tryz.underlying22
      rw [show Tryz.prog.bytesOf 9 = 16 by kernel_rfl, hl, show reachBytes = 140737488351232 from rfl] at this
      omega
  clear hA0 hval0 hz hz0
  simp only [List.append_nil] at hW'
  have hlt : ∀ z ∈ p0, z.block < W.heap.size := fun z hz => hW'.lt z (by simpa using hz)
  have bat_ := Ag4 wat_
  refine (SL (SJ (lines.length + 1800)) (by decide) (Afc hL hsh) ((Ag6 (lines.length + 1800) lines at_).trans (by rw [Aop (by omega) (by omega) bat_]; rfl)) (by kernel_rfl) (vals := [.slice alines lines.length clines, .int .u8 at_]) ?_).mono fun e W' ⟨he, hb⟩ => ?_
  · exact (UY hlines (Ag5 Afe))
  subst he
  have harg0 : DataW.Trod enc Tryz.prog W' 0 (fun b => decide (b < W.heap.size)) true 22 (.slice alines lines.length clines) d0 p0 :=
    Below.trod GJ (by kernel_rfl) (of_decide_eq_true (by kernel_rfl)) h0 hb (fun z hz => hlt z hz)
  refine ⟨_, rfl, _, _, _, [], p0, [], hW', ?_, ?_, rfl, hb.frame _, fun h => by cases h⟩
  · exact trodAll_mk1 (shut_bool Tryz.underlying4 _)
  · exact ⟨p0, [], harg0, ⟨[], [], shut_int Tryz.underlying5 wat_, rfl, by simp⟩, by simp⟩
theorem Aff : (Rows.garageOutRow.wf (OpenSpec.ofChange Rows.garageOutSpec)) = true := by kernel_rfl
theorem Afg : (Tryz.f4.params.all (Tryz.prog.readableRec ·)) = true := by kernel_rfl
theorem Afh : (namedTie Tryz.prog Rows.garageOutRow.named Rows.garageOutSpec.vars) = true := by kernel_rfl
theorem Afi : ((Rows.garageOutRow.stops == [])) = true := by kernel_rfl
theorem Afj : ((Rows.garageOutRow.knobs == [])) = true := by kernel_rfl
theorem Afk : ((Rows.garageOutRow.inPlace == Tryz.prog.inPlace 4)) = true := by kernel_rfl
theorem AcI : ((Rows.garageOutRow.unfollowed == Tryz.prog.unfollowed 4)) = true := by kernel_rfl
theorem AcJ : ((Rows.garageOutRow.recurses == Tryz.prog.recurses 4)) = true := by kernel_rfl
theorem AcK : ((Rows.garageOutRow.named == Tryz.prog.varsNamed 4)) = true := by kernel_rfl
theorem AcL : ((Rows.garageOutRow.maps == (Tryz.f4.params.toList ++ Rows.garageOutSpec.plain.varTypes Tryz.prog).any (Tryz.prog.mapsRec ·))) = true := by kernel_rfl
theorem AcM : ((Rows.garageOutRow.ifaces == (Tryz.f4.params.toList ++ Rows.garageOutSpec.plain.varTypes Tryz.prog).any (Tryz.prog.ifacesRec ·))) = true := by kernel_rfl
theorem AcN : ((Rows.garageOutRow.mapsOut == Tryz.prog.mapsAmong Tryz.f4.resultTypes.toList)) = true := by kernel_rfl
theorem AcO : ((Rows.garageOutRow.loops == (Tryz.f4.params.toList ++ Rows.garageOutSpec.plain.varTypes Tryz.prog).any (Tryz.prog.loopsFrom ·))) = true := by kernel_rfl
theorem AcP : ((Rows.garageOutRow.wideKeys == (Tryz.f4.params.toList ++ Rows.garageOutSpec.plain.varTypes Tryz.prog ++ Tryz.f4.resultTypes.toList).any (Tryz.prog.wideKeysFrom ·))) = true := by kernel_rfl
theorem AcQ : (Rows.garageOutSpec.vars.all (Tryz.prog.varReadable ·)) = true := by kernel_rfl
theorem AcR : (Tryz.f4.resultTypes.all (fun t => Tryz.prog.readableRec t && decide (t < Tryz.prog.types.size))) = true := by kernel_rfl
theorem AcS : ((Rows.garageOutRow.ifacesOut == Tryz.f4.resultTypes.toList.any (Tryz.prog.ifacesRec ·))) = true := by kernel_rfl
theorem AcT : ((Rows.garageOutRow.loopsOut == Tryz.f4.resultTypes.toList.any (Tryz.prog.loopsFrom ·))) = true := by kernel_rfl
theorem AcU : (Rows.garageOutRow.shortTexts.isNone) = true := by kernel_rfl
theorem AcV : ((Rows.garageOutRow.kinds == (if Rows.garageOutRow.domain.isEmpty then [] else Tryz.f4.params.toList.map fun t => match Tryz.prog.underlying t with | some (.int k) => some k | _ => none))) = true := by kernel_rfl
theorem AcW : ((Rows.garageOutRow.pinned == Rows.garageOutRow.pinnedBy)) = true := by kernel_rfl
theorem AcX : ((Rows.garageOutRow.veiled == (Tryz.f4.params.toList ++ Rows.garageOutSpec.plain.varTypes Tryz.prog ++ Tryz.f4.resultTypes.toList).any (Tryz.prog.veiledRec ·))) = true := by kernel_rfl
theorem AcY : (Rows.garageOutRow.veiledFits Tryz.prog Tryz.f4.params.toList (Tryz.f4.params.toList ++ Rows.garageOutSpec.plain.varTypes Tryz.prog ++ Tryz.f4.resultTypes.toList)) = true := by kernel_rfl
theorem W3 : joinedFacts Tryz.prog 4 Tryz.f4 Rows.garageOutSpec Rows.garageOutRow = true := by
  unfold joinedFacts
  exact Al (Al (Al (Al (Al (Al (Al (Al (Al (Al (Al (Al (Al (Al (Al (Al (Al (Al (Al (Al (Al (Al (Al (Al (Al (Al (Al (Al (Al (Al (Al (Aff) GJ) ZN) Afg) Afh) Afi) UZ) Afj) Va) Afk) AcI) AcJ) AcK) AcL) AcM) AcN) AcO) AcP) AcQ) AcR) AcS) AcT) Vb) AcU) Vc) Vd) Ve) ZO) AcV) AcW) AcX) AcY
theorem Aad : false = Rows.garageOutRow.goesBy Tryz.prog := by kernel_rfl
theorem Afl : Rows.garageOutRow.wfByText (OpenSpec.ofChange Rows.garageOutSpec) = true := by kernel_rfl
theorem QJ : Tryz.prog.funcNamed "layover/layoverlaw12.GarageOut" = some 4 := by kernel_rfl
theorem Yz : ([22, 5].all fun u => !Tryz.prog.wantsStandIn u) = true := by kernel_rfl
theorem AcZ : Rows.GarageOutSaid :=
  OpenClaim.holds_of_wide 4 Tryz.f4 rfl rfl rfl rfl rfl rfl rfl ⟨rfl, rfl, rfl, rfl, rfl⟩ rfl rfl rfl rfl rfl QJ Tryz.func4 W3
    (of_decide_eq_true (by kernel_rfl)) (by unfold Func.isWrapper; rw [if_neg (of_decide_eq_false (by kernel_rfl))]; exact ⟨rfl, rfl⟩)
    (fun os started H enc _ => Wz os started H enc)
theorem garageOut_holds : Rows.GarageOutCardSaid :=
  Claim7.holds_tied_plain_at .later [] Rows.garageOutCard.laidKinds true Rows.garageOutCard.stood.harness true
    AcZ (fun _ h => by cases h) Afl (fun _ h => by cases h) garageOut_row_tie rfl ⟨rfl, rfl⟩ ZP rfl
    (fun f fn hf hfn => by
      obtain rfl : f = 4 := Option.some.inj (QJ.symm.trans hf) |>.symm
      obtain rfl : fn = Tryz.f4 := (Option.some.inj (Tryz.func4.symm.trans hfn)).symm
      exact ⟨Vf, fun j t ht => by
        rw [Tryz.params4] at ht
        have hm : t ∈ [22, 5] := by simpa using Array.mem_of_getElem? ht
        exact (show Tryz.prog.wantsStandIn t = false by simpa using List.all_eq_true.1 Yz t hm)⟩)
    Aad
end Go.Proofs.YtkpgggfibljflaaGreatDoor
