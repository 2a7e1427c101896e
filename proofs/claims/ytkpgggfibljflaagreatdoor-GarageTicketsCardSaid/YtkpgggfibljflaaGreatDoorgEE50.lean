/- GarageTickets, for every input. -/
import Derived.Test.YtkpgggfibljflaaGreatDoorgEE01
import Derived.Test.YtkpgggfibljflaaGreatDoorgEL04
set_option linter.all false
set_option maxRecDepth 100000
namespace Go.Proofs.YtkpgggfibljflaaGreatDoor
open Go Go.RowKit Go.ChangeShapes Go.WideShapes Go.ChangeAt Go.Proofs Go.Proofs.YtkpgggfibljflaaGreatDoor
theorem WQ (n : Nat) (lines : List ByteArray) (by_ : Int) : (flaw_GarageTickets_law n [.lst 9 lines, .int .u8 by_] 0 []).runK some = (Fs n lines ⟨by_⟩).bind fun y => some ⟨false, .bool y.1, [], 0⟩ := by kernel_rfl
set_option maxHeartbeats 800000 in
theorem PU (os : Os) (started : os.Started) (H : Type) (enc : TypeId × Value → H) :
    ReturnsInHanded {} Tryz.checked os 13 .any (fun w args => (Rows.garageTicketsSpec.pre enc Tryz.prog Tryz.f13 Rows.garageTicketsRow.domain false w args ∧ laidMetH Tryz.prog Rows.garageTicketsRow.laid w) ∧ sizedMet enc Tryz.prog Tryz.f13 (OpenSpec.ofChange Rows.garageTicketsSpec) false w args) (Rows.garageTicketsSpec.post enc Tryz.prog Tryz.f13 false true false false) := by
  refine UG (C := Tryz.checked) (X := fun w _ => laidMetH Tryz.prog AfM w) (fun _ _ _ hh h => h.of_heap hh) AlE started (by kernel_rfl) Tryz.func13
    (ChangeSpec.witness_shaped (enc := enc) (C := Tryz.checked) (os := os) (X := fun w _ => laidMetH Tryz.prog AfM w) false (World.laidAll Tryz.prog os AfM) #[.slice none 0 0, .int .u8 0] 8 (World.laidAll_os _ _ _) (World.shaped_of_ZipB (by kernel_rfl) (by kernel_rfl)) (by kernel_rfl) (by kernel_rfl) (by kernel_rfl) (by rw [MakeChecks.laidMetH_plain _ _ _ (by kernel_rfl)]; exact laidMet_laidAll _ (by kernel_rfl) (by kernel_rfl))) ?_
  intro W base args ds gs before hval0 hW hz0 hL hsh
  have hval : ∀ (j : Nat) t v, Tryz.f13.params[j]? = some t → args[j]? = some v → Value.okWide Tryz.prog W .any base t v := hval0
  have hW' := hW
  obtain ⟨p, q, hA0, hV, rfl, _, _⟩ := hW
  have hA : DataW.TrodAll enc Tryz.prog W 0 (fun _ => true) true Tryz.f13.params.toList args.toList ds p := hA0
  have hz : (DataW.weightsEach Tryz.prog (Tryz.f13.params.toList ++ Rows.garageTicketsSpec.plain.varTypes Tryz.prog) (ds ++ gs)).all (· ≤ reachBytes) = true := hz0
  rw [Tryz.params13] at hA hval hz
  obtain ⟨v0, vs0, d0, ds0, p0, q0, ha0, rfl, rfl, h0, hA⟩ := trodAll_cons hA
  obtain ⟨v1, vs1, d1, ds1, p1, q1, rfl, rfl, rfl, h1, hA⟩ := trodAll_cons hA
  obtain ⟨rfl, rfl, rfl⟩ := trodAll_nil hA
  obtain rfl : args = #[v0, v1] := by cases args; simp_all
  obtain ⟨rfl, rfl⟩ := trodVars_none hV
  obtain ⟨lines, alines, clines, rfl, hlines, rlines⟩ := Akn AlG Tryz.underlying22 (hval 0 22 v0 rfl rfl) h0
  obtain ⟨by_, rfl, rfl, rfl, wby_⟩ := open_int Tryz.underlying5 (hval 1 5 v1 rfl rfl) h1
  have lenlines : lines.length ≤ 4000000000000000000 := by
    rcases AhW Tryz.underlying22 h0 with hn | ⟨es, rs, rfl, hl⟩
    · omega
    · have := sized_slice hz (j := 0) (t := 22) (e := 9) rfl rfl Tryz.underlying22
      rw [show Tryz.prog.bytesOf 9 = 16 by kernel_rfl, hl, show reachBytes = 140737488351232 from rfl] at this
      omega
  clear hA0 hval0 hz hz0
  simp only [List.append_nil] at hW'
  have hlt : ∀ z ∈ p0, z.block < W.heap.size := fun z hz => hW'.lt z (by simpa using hz)
  have bby_ := AhV wby_
  refine (AgA (Nl (lines.length + 3000)) (by decide) (AlF hL hsh) ((WQ (lines.length + 3000) lines by_).trans (by rw [Adl (by omega) (by omega) bby_]; rfl)) (by kernel_rfl) (vals := [.slice alines lines.length clines, .int .u8 by_]) ?_).mono fun e W' ⟨he, hb⟩ => ?_
  · exact (AhX hlines (AhY AlH))
  subst he
  have harg0 : DataW.Trod enc Tryz.prog W' 0 (fun b => decide (b < W.heap.size)) true 22 (.slice alines lines.length clines) d0 p0 :=
    Below.trod X4 (by kernel_rfl) (of_decide_eq_true (by kernel_rfl)) h0 hb (fun z hz => hlt z hz)
  refine ⟨_, rfl, _, _, _, [], p0, [], hW', ?_, ?_, rfl, hb.frame _, fun h => by cases h⟩
  · exact trodAll_mk1 (shut_bool Tryz.underlying4 _)
  · exact ⟨p0, [], harg0, ⟨[], [], shut_int Tryz.underlying5 wby_, rfl, by simp⟩, by simp⟩
theorem UH : (Rows.garageTicketsRow.wf (OpenSpec.ofChange Rows.garageTicketsSpec)) = true := by kernel_rfl
theorem UJ : (Tryz.f13.params.all (Tryz.prog.readableRec ·)) = true := by kernel_rfl
theorem UK : (namedTie Tryz.prog Rows.garageTicketsRow.named Rows.garageTicketsSpec.vars) = true := by kernel_rfl
theorem UN : ((Rows.garageTicketsRow.stops == [])) = true := by kernel_rfl
theorem UO : ((Rows.garageTicketsRow.knobs == [])) = true := by kernel_rfl
theorem UP : ((Rows.garageTicketsRow.inPlace == Tryz.prog.inPlace 13)) = true := by kernel_rfl
theorem Tf : ((Rows.garageTicketsRow.unfollowed == Tryz.prog.unfollowed 13)) = true := by kernel_rfl
theorem Tg : ((Rows.garageTicketsRow.recurses == Tryz.prog.recurses 13)) = true := by kernel_rfl
theorem Th : ((Rows.garageTicketsRow.named == Tryz.prog.varsNamed 13)) = true := by kernel_rfl
theorem Ti : ((Rows.garageTicketsRow.maps == (Tryz.f13.params.toList ++ Rows.garageTicketsSpec.plain.varTypes Tryz.prog).any (Tryz.prog.mapsRec ·))) = true := by kernel_rfl
theorem Tj : ((Rows.garageTicketsRow.ifaces == (Tryz.f13.params.toList ++ Rows.garageTicketsSpec.plain.varTypes Tryz.prog).any (Tryz.prog.ifacesRec ·))) = true := by kernel_rfl
theorem Tk : ((Rows.garageTicketsRow.mapsOut == Tryz.prog.mapsAmong Tryz.f13.resultTypes.toList)) = true := by kernel_rfl
theorem Tl : ((Rows.garageTicketsRow.loops == (Tryz.f13.params.toList ++ Rows.garageTicketsSpec.plain.varTypes Tryz.prog).any (Tryz.prog.loopsFrom ·))) = true := by kernel_rfl
theorem Tm : ((Rows.garageTicketsRow.wideKeys == (Tryz.f13.params.toList ++ Rows.garageTicketsSpec.plain.varTypes Tryz.prog ++ Tryz.f13.resultTypes.toList).any (Tryz.prog.wideKeysFrom ·))) = true := by kernel_rfl
theorem Tn : (Rows.garageTicketsSpec.vars.all (Tryz.prog.varReadable ·)) = true := by kernel_rfl
theorem To : (Tryz.f13.resultTypes.all (fun t => Tryz.prog.readableRec t && decide (t < Tryz.prog.types.size))) = true := by kernel_rfl
theorem Tp : ((Rows.garageTicketsRow.ifacesOut == Tryz.f13.resultTypes.toList.any (Tryz.prog.ifacesRec ·))) = true := by kernel_rfl
theorem Tq : ((Rows.garageTicketsRow.loopsOut == Tryz.f13.resultTypes.toList.any (Tryz.prog.loopsFrom ·))) = true := by kernel_rfl
theorem Ts : (Rows.garageTicketsRow.shortTexts.isNone) = true := by kernel_rfl
theorem Tt : ((Rows.garageTicketsRow.kinds == (if Rows.garageTicketsRow.domain.isEmpty then [] else Tryz.f13.params.toList.map fun t => match Tryz.prog.underlying t with | some (.int k) => some k | _ => none))) = true := by kernel_rfl
theorem Tu : ((Rows.garageTicketsRow.pinned == Rows.garageTicketsRow.pinnedBy)) = true := by kernel_rfl
theorem Tv : ((Rows.garageTicketsRow.veiled == (Tryz.f13.params.toList ++ Rows.garageTicketsSpec.plain.varTypes Tryz.prog ++ Tryz.f13.resultTypes.toList).any (Tryz.prog.veiledRec ·))) = true := by kernel_rfl
theorem Tw : (Rows.garageTicketsRow.veiledFits Tryz.prog Tryz.f13.params.toList (Tryz.f13.params.toList ++ Rows.garageTicketsSpec.plain.varTypes Tryz.prog ++ Tryz.f13.resultTypes.toList)) = true := by kernel_rfl
theorem PV : joinedFacts Tryz.prog 13 Tryz.f13 Rows.garageTicketsSpec Rows.garageTicketsRow = true := by
  unfold joinedFacts
  exact B7 (B7 (B7 (B7 (B7 (B7 (B7 (B7 (B7 (B7 (B7 (B7 (B7 (B7 (B7 (B7 (B7 (B7 (B7 (B7 (B7 (B7 (B7 (B7 (B7 (B7 (B7 (B7 (B7 (B7 (B7 (UH) X4) Ako) UJ) UK) UN) AhZ) UO) Aia) UP) Tf) Tg) Th) Ti) Tj) Tk) Tl) Tm) Tn) To) Tp) Tq) Aib) Ts) Aic) Aid) Aie) Akp) Tt) Tu) Tv) Tw
theorem Sq : false = Rows.garageTicketsRow.goesBy Tryz.prog := by kernel_rfl
theorem UQ : Rows.garageTicketsRow.wfByText (OpenSpec.ofChange Rows.garageTicketsSpec) = true := by kernel_rfl
theorem Kg : Tryz.prog.funcNamed "layover/layoverlaw12.GarageTickets" = some 13 := by kernel_rfl
theorem R5 : ([22, 5].all fun u => !Tryz.prog.wantsStandIn u) = true := by kernel_rfl
theorem Tx : Rows.GarageTicketsSaid :=
  OpenClaim.holds_of_wide 13 Tryz.f13 rfl rfl rfl rfl rfl rfl rfl ⟨rfl, rfl, rfl, rfl, rfl⟩ rfl rfl rfl rfl rfl Kg Tryz.func13 PV
    (of_decide_eq_true (by kernel_rfl)) (by unfold Func.isWrapper; rw [if_neg (of_decide_eq_false (by kernel_rfl))]; exact ⟨rfl, rfl⟩)
    (fun os started H enc _ => PU os started H enc)
theorem garageTickets_holds : Rows.GarageTicketsCardSaid :=
  Claim7.holds_tied_plain_at .later [] Rows.garageTicketsCard.laidKinds true Rows.garageTicketsCard.stood.harness true
    Tx (fun _ h => by cases h) UQ (fun _ h => by cases h) garageTickets_row_tie rfl ⟨rfl, rfl⟩ Akq rfl
    (fun f fn hf hfn => by
      obtain rfl : f = 13 := Option.some.inj (Kg.symm.trans hf) |>.symm
      obtain rfl : fn = Tryz.f13 := (Option.some.inj (Tryz.func13.symm.trans hfn)).symm
      exact ⟨Aif, fun j t ht => by
        rw [Tryz.params13] at ht
        have hm : t ∈ [22, 5] := by simpa using Array.mem_of_getElem? ht
        exact (show Tryz.prog.wantsStandIn t = false by simpa using List.all_eq_true.1 R5 t hm)⟩)
    Sq
end Go.Proofs.YtkpgggfibljflaaGreatDoor
