/- GarageLegal, for every input. -/
import Derived.Test.YtkpgggfibljflaaGreatDoorgDE01
import Derived.Test.YtkpgggfibljflaaGreatDoorgDL04
set_option linter.all false
set_option maxRecDepth 100000
namespace Go.Proofs.YtkpgggfibljflaaGreatDoor
open Go Go.RowKit Go.ChangeShapes Go.WideShapes Go.ChangeAt Go.Proofs Go.Proofs.YtkpgggfibljflaaGreatDoor
theorem Adc (n : Nat) (lines : List ByteArray) (at_ : Int) : (flaw_GarageLegal_law n [.lst 9 lines, .int .u8 at_] 0 []).runK some = (H4 n lines ⟨at_⟩).bind fun y => some ⟨false, .bool y.1, [], 0⟩ := by kernel_rfl
set_option maxHeartbeats 800000 in
theorem Uj (os : Os) (started : os.Started) (H : Type) (enc : TypeId × Value → H) :
    ReturnsInHanded {} Tryz.checked os 7 .any (fun w args => (Rows.garageLegalSpec.pre enc Tryz.prog Tryz.f7 Rows.garageLegalRow.domain false w args ∧ laidMetH Tryz.prog Rows.garageLegalRow.laid w) ∧ sizedMet enc Tryz.prog Tryz.f7 (OpenSpec.ofChange Rows.garageLegalSpec) false w args) (Rows.garageLegalSpec.post enc Tryz.prog Tryz.f7 false true false false) := by
  refine Hj (C := Tryz.checked) (X := fun w _ => laidMetH Tryz.prog Ot w) (fun _ _ _ hh h => h.of_heap hh) Afb started (by kernel_rfl) Tryz.func7
    (ChangeSpec.witness_shaped (enc := enc) (C := Tryz.checked) (os := os) (X := fun w _ => laidMetH Tryz.prog Ot w) false (World.laidAll Tryz.prog os Ot) #[.slice none 0 0, .int .u8 0] 8 (World.laidAll_os _ _ _) (World.shaped_of_ZipB (by kernel_rfl) (by kernel_rfl)) (by kernel_rfl) (by kernel_rfl) (by kernel_rfl) (by rw [MakeChecks.laidMetH_plain _ _ _ (by kernel_rfl)]; exact laidMet_laidAll _ (by kernel_rfl) (by kernel_rfl))) ?_
  intro W base args ds gs before hval0 hW hz0 hL hsh
  have hval : ∀ (j : Nat) t v, Tryz.f7.params[j]? = some t → args[j]? = some v → Value.okWide Tryz.prog W .any base t v := hval0
  have hW' := hW
  obtain ⟨p, q, hA0, hV, rfl, _, _⟩ := hW
  have hA : DataW.TrodAll enc Tryz.prog W 0 (fun _ => true) true Tryz.f7.params.toList args.toList ds p := hA0
  have hz : (DataW.weightsEach Tryz.prog (Tryz.f7.params.toList ++ Rows.garageLegalSpec.plain.varTypes Tryz.prog) (ds ++ gs)).all (· ≤ reachBytes) = true := hz0
  rw [Tryz.params7] at hA hval hz
  obtain ⟨v0, vs0, d0, ds0, p0, q0, ha0, rfl, rfl, h0, hA⟩ := trodAll_cons hA
  obtain ⟨v1, vs1, d1, ds1, p1, q1, rfl, rfl, rfl, h1, hA⟩ := trodAll_cons hA
  obtain ⟨rfl, rfl, rfl⟩ := trodAll_nil hA
  obtain rfl : args = #[v0, v1] := by cases args; simp_all
  obtain ⟨rfl, rfl⟩ := trodVars_none hV
  obtain ⟨lines, alines, clines, rfl, hlines, rlines⟩ := ZM Afd Tryz.underlying22 (hval 0 22 v0 rfl rfl) h0
  obtain ⟨at_, rfl, rfl, rfl, wat_⟩ := open_int Tryz.underlying5 (hval 1 5 v1 rfl rfl) h1
  have lenlines : lines.length ≤ 4000000000000000000 := by
    rcases UX Tryz.underlying22 h0 with hn | ⟨es, rs, rfl, hl⟩
    · omega
    · have := sized_slice hz (j := 0) (t := 22) (e := 9) rfl rfl Tryz.underlying22
      rw [show Tryz.prog.bytesOf 9 = 16 by kernel_rfl, hl, show reachBytes = 140737488351232 from rfl] at this
      omega
  clear hA0 hval0 hz hz0
  simp only [List.append_nil] at hW'
  have hlt : ∀ z ∈ p0, z.block < W.heap.size := fun z hz => hW'.lt z (by simpa using hz)
  have bat_ := Ag4 wat_
  refine (SL (QB (lines.length + 2000)) (by decide) (Afc hL hsh) ((Adc (lines.length + 2000) lines at_).trans (by rw [Ale (by omega) (by omega) bat_]; rfl)) (by kernel_rfl) (vals := [.slice alines lines.length clines, .int .u8 at_]) ?_).mono fun e W' ⟨he, hb⟩ => ?_
  · exact (UY hlines (Ag5 Afe))
  subst he
  have harg0 : DataW.Trod enc Tryz.prog W' 0 (fun b => decide (b < W.heap.size)) true 22 (.slice alines lines.length clines) d0 p0 :=
    Below.trod GJ (by kernel_rfl) (of_decide_eq_true (by kernel_rfl)) h0 hb (fun z hz => hlt z hz)
  refine ⟨_, rfl, _, _, _, [], p0, [], hW', ?_, ?_, rfl, hb.frame _, fun h => by cases h⟩
  · exact trodAll_mk1 (shut_bool Tryz.underlying4 _)
  · exact ⟨p0, [], harg0, ⟨[], [], shut_int Tryz.underlying5 wat_, rfl, by simp⟩, by simp⟩
theorem Aas : (Rows.garageLegalRow.wf (OpenSpec.ofChange Rows.garageLegalSpec)) = true := by kernel_rfl
theorem Aat : (Tryz.f7.params.all (Tryz.prog.readableRec ·)) = true := by kernel_rfl
theorem Aau : (namedTie Tryz.prog Rows.garageLegalRow.named Rows.garageLegalSpec.vars) = true := by kernel_rfl
theorem Aav : ((Rows.garageLegalRow.stops == [])) = true := by kernel_rfl
theorem Aaw : ((Rows.garageLegalRow.knobs == [])) = true := by kernel_rfl
theorem Aax : ((Rows.garageLegalRow.inPlace == Tryz.prog.inPlace 7)) = true := by kernel_rfl
theorem Zd : ((Rows.garageLegalRow.unfollowed == Tryz.prog.unfollowed 7)) = true := by kernel_rfl
theorem Ze : ((Rows.garageLegalRow.recurses == Tryz.prog.recurses 7)) = true := by kernel_rfl
theorem Zf : ((Rows.garageLegalRow.named == Tryz.prog.varsNamed 7)) = true := by kernel_rfl
theorem Zg : ((Rows.garageLegalRow.maps == (Tryz.f7.params.toList ++ Rows.garageLegalSpec.plain.varTypes Tryz.prog).any (Tryz.prog.mapsRec ·))) = true := by kernel_rfl
theorem Zh : ((Rows.garageLegalRow.ifaces == (Tryz.f7.params.toList ++ Rows.garageLegalSpec.plain.varTypes Tryz.prog).any (Tryz.prog.ifacesRec ·))) = true := by kernel_rfl
theorem Zi : ((Rows.garageLegalRow.mapsOut == Tryz.prog.mapsAmong Tryz.f7.resultTypes.toList)) = true := by kernel_rfl
theorem Zj : ((Rows.garageLegalRow.loops == (Tryz.f7.params.toList ++ Rows.garageLegalSpec.plain.varTypes Tryz.prog).any (Tryz.prog.loopsFrom ·))) = true := by kernel_rfl
theorem Zk : ((Rows.garageLegalRow.wideKeys == (Tryz.f7.params.toList ++ Rows.garageLegalSpec.plain.varTypes Tryz.prog ++ Tryz.f7.resultTypes.toList).any (Tryz.prog.wideKeysFrom ·))) = true := by kernel_rfl
theorem Zl : (Rows.garageLegalSpec.vars.all (Tryz.prog.varReadable ·)) = true := by kernel_rfl
theorem Zm : (Tryz.f7.resultTypes.all (fun t => Tryz.prog.readableRec t && decide (t < Tryz.prog.types.size))) = true := by kernel_rfl
theorem Zn : ((Rows.garageLegalRow.ifacesOut == Tryz.f7.resultTypes.toList.any (Tryz.prog.ifacesRec ·))) = true := by kernel_rfl
theorem Zo : ((Rows.garageLegalRow.loopsOut == Tryz.f7.resultTypes.toList.any (Tryz.prog.loopsFrom ·))) = true := by kernel_rfl
theorem Zp : (Rows.garageLegalRow.shortTexts.isNone) = true := by kernel_rfl
theorem Zq : ((Rows.garageLegalRow.kinds == (if Rows.garageLegalRow.domain.isEmpty then [] else Tryz.f7.params.toList.map fun t => match Tryz.prog.underlying t with | some (.int k) => some k | _ => none))) = true := by kernel_rfl
theorem Zr : ((Rows.garageLegalRow.pinned == Rows.garageLegalRow.pinnedBy)) = true := by kernel_rfl
theorem Zs : ((Rows.garageLegalRow.veiled == (Tryz.f7.params.toList ++ Rows.garageLegalSpec.plain.varTypes Tryz.prog ++ Tryz.f7.resultTypes.toList).any (Tryz.prog.veiledRec ·))) = true := by kernel_rfl
theorem Zt : (Rows.garageLegalRow.veiledFits Tryz.prog Tryz.f7.params.toList (Tryz.f7.params.toList ++ Rows.garageLegalSpec.plain.varTypes Tryz.prog ++ Tryz.f7.resultTypes.toList)) = true := by kernel_rfl
theorem Uk : joinedFacts Tryz.prog 7 Tryz.f7 Rows.garageLegalSpec Rows.garageLegalRow = true := by
  unfold joinedFacts
  exact Al (Al (Al (Al (Al (Al (Al (Al (Al (Al (Al (Al (Al (Al (Al (Al (Al (Al (Al (Al (Al (Al (Al (Al (Al (Al (Al (Al (Al (Al (Al (Aas) GJ) ZN) Aat) Aau) Aav) UZ) Aaw) Va) Aax) Zd) Ze) Zf) Zg) Zh) Zi) Zj) Zk) Zl) Zm) Zn) Zo) Vb) Zp) Vc) Vd) Ve) ZO) Zq) Zr) Zs) Zt
theorem W7 : false = Rows.garageLegalRow.goesBy Tryz.prog := by kernel_rfl
theorem Aay : Rows.garageLegalRow.wfByText (OpenSpec.ofChange Rows.garageLegalSpec) = true := by kernel_rfl
theorem Nv : Tryz.prog.funcNamed "layover/layoverlaw12.GarageLegal" = some 7 := by kernel_rfl
theorem Vi : ([22, 5].all fun u => !Tryz.prog.wantsStandIn u) = true := by kernel_rfl
theorem Zu : Rows.GarageLegalSaid :=
  OpenClaim.holds_of_wide 7 Tryz.f7 rfl rfl rfl rfl rfl rfl rfl ⟨rfl, rfl, rfl, rfl, rfl⟩ rfl rfl rfl rfl rfl Nv Tryz.func7 Uk
    (of_decide_eq_true (by kernel_rfl)) (by unfold Func.isWrapper; rw [if_neg (of_decide_eq_false (by kernel_rfl))]; exact ⟨rfl, rfl⟩)
    (fun os started H enc _ => Uj os started H enc)
theorem garageLegal_holds : Rows.GarageLegalCardSaid :=
  Claim7.holds_tied_plain_at .later [] Rows.garageLegalCard.laidKinds true Rows.garageLegalCard.stood.harness true
    Zu (fun _ h => by cases h) Aay (fun _ h => by cases h) garageLegal_row_tie rfl ⟨rfl, rfl⟩ ZP rfl
    (fun f fn hf hfn => by
      obtain rfl : f = 7 := Option.some.inj (Nv.symm.trans hf) |>.symm
      obtain rfl : fn = Tryz.f7 := (Option.some.inj (Tryz.func7.symm.trans hfn)).symm
      exact ⟨Vf, fun j t ht => by
        rw [Tryz.params7] at ht
        have hm : t ∈ [22, 5] := by simpa using Array.mem_of_getElem? ht
        exact (show Tryz.prog.wantsStandIn t = false by simpa using List.all_eq_true.1 Vi t hm)⟩)
    W7
end Go.Proofs.YtkpgggfibljflaaGreatDoor
