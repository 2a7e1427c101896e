/- GarageResumes, for every input. -/
import Derived.Test.YtkpgggfibljflaaGreatDoorgRE01
import Derived.Test.YtkpgggfibljflaaGreatDoorgRL05
set_option linter.all false
set_option maxRecDepth 100000
namespace Go.Proofs.YtkpgggfibljflaaGreatDoor
open Go Go.RowKit Go.ChangeShapes Go.WideShapes Go.ChangeAt Go.Proofs Go.Proofs.YtkpgggfibljflaaGreatDoor
theorem AeB (n : Nat) (b : List (IK .u8)) (more : List ByteArray) : (ZdR n [.lst 5 b, .lst 9 more] 0 []).runK some = (GU n b more).bind fun y => some ⟨false, .bool y.1, [], 0⟩ := by kernel_rfl
set_option maxHeartbeats 800000 in
theorem Vg (os : Os) (started : os.Started) (H : Type) (enc : TypeId × Value → H) :
  ReturnsInHanded {} Tryz.checked os 14 .any (fun w args => (Rows.garageResumesSpec.pre enc Tryz.prog Tryz.f14 Rows.garageResumesRow.domain false w args ∧ laidMetH Tryz.prog Rows.garageResumesRow.laid w) ∧ sizedMet enc Tryz.prog Tryz.f14 (OpenSpec.ofChange Rows.garageResumesSpec) false w args) (Rows.garageResumesSpec.post enc Tryz.prog Tryz.f14 false true false false) := by
 refine Acc (C := Tryz.checked) (X := fun w _ => laidMetH Tryz.prog Ap0 w) (fun _ _ _ hh h => h.of_heap hh) Awc started (by kernel_rfl) Tryz.func14
  (ChangeSpec.witness_shaped (enc := enc) (C := Tryz.checked) (os := os) (X := fun w _ => laidMetH Tryz.prog Ap0 w) false (World.laidAll Tryz.prog os Ap0) #[.slice none 0 0, .slice none 0 0] 8 (World.laidAll_os _ _ _) (World.shaped_of_ZipB (by kernel_rfl) (by kernel_rfl)) (by kernel_rfl) (by kernel_rfl) (by kernel_rfl) (by rw [MakeChecks.laidMetH_plain _ _ _ (by kernel_rfl)]; exact laidMet_laidAll _ (by kernel_rfl) (by kernel_rfl))) ?_
 intro W base args ds gs before hval0 hW hz0 hL hsh
 have hval : ∀ (j : Nat) t v, Tryz.f14.params[j]? = some t → args[j]? = some v → Value.okWide Tryz.prog W .any base t v := hval0
 have hW' := hW
 obtain ⟨p, q, hA0, hV, rfl, _, _⟩ := hW
 have hA : DataW.TrodAll enc Tryz.prog W 0 (fun _ => true) true Tryz.f14.params.toList args.toList ds p := hA0
 have hz : (DataW.weightsEach Tryz.prog (Tryz.f14.params.toList ++ Rows.garageResumesSpec.plain.varTypes Tryz.prog) (ds ++ gs)).all (· ≤ reachBytes) = true := hz0
 rw [Tryz.params14] at hA hval hz
 obtain ⟨v0, vs0, d0, ds0, p0, q0, ha0, rfl, rfl, h0, hA⟩ := trodAll_cons hA
 obtain ⟨v1, vs1, d1, ds1, p1, q1, rfl, rfl, rfl, h1, hA⟩ := trodAll_cons hA
 obtain ⟨rfl, rfl, rfl⟩ := trodAll_nil hA
 obtain rfl : args = #[v0, v1] := by cases args; simp_all
 obtain ⟨rfl, rfl⟩ := trodVars_none hV
 obtain ⟨b, ab, cb, rfl, hb, rb⟩ := Ap2 Auz Tryz.underlying78 (hval 0 78 v0 rfl rfl) h0
 obtain ⟨more, amore, cmore, rfl, hmore, rmore⟩ := Ap2 Awe Tryz.underlying22 (hval 1 22 v1 rfl rfl) h1
 have lenmore : more.length ≤ 4000000000000000000 := by
  rcases ArX Tryz.underlying22 h1 with hn | ⟨es, rs, rfl, hl⟩
  · omega
  · have := sized_slice hz (j := 1) (t := 22) (e := 9) rfl rfl Tryz.underlying22
    rw [show Tryz.prog.bytesOf 9 = 16 by kernel_rfl, hl, show reachBytes = 140737488351232 from rfl] at this
    omega
 clear hA0 hval0 hz hz0
 simp only [Zbi] at hW'
 have hlt : ∀ z ∈ p0 ++ p1, z.block < W.heap.size := fun z hz => hW'.lt z (by simpa using hz)
 refine (Aqz (RK (more.length + 2000)) (by decide) (Awd hL hsh) ((AeB (more.length + 2000) b more).trans (by rw [Am1 (by omega) (by omega) (fun x hx => ArW (rb x hx))]; rfl)) (by kernel_rfl) (vals := [.slice ab b.length cb, .slice amore more.length cmore]) ?_).mono fun e W' ⟨he, hb⟩ => ?_
 · exact (AlI hb (AlI hmore Awf))
 subst he
 have harg0 : DataW.Trod enc Tryz.prog W' 0 (fun b => decide (b < W.heap.size)) true 78 (.slice ab b.length cb) d0 p0 :=
  Below.trod Y5 (by kernel_rfl) (of_decide_eq_true (by kernel_rfl)) h0 hb (fun z hz => hlt z (by simp [hz]))
 have harg1 : DataW.Trod enc Tryz.prog W' 0 (fun b => decide (b < W.heap.size)) true 22 (.slice amore more.length cmore) d1 p1 :=
  Below.trod Y5 (by kernel_rfl) (of_decide_eq_true (by kernel_rfl)) h1 hb (fun z hz => hlt z (by simp [hz]))
 refine ⟨_, rfl, _, _, _, [], p0 ++ p1, [], hW', ?_, ?_, rfl, hb.frame _, fun h => by cases h⟩
 · exact trodAll_mk1 (shut_bool Tryz.underlying4 _)
 · exact ⟨p0, p1, harg0, ⟨p1, [], harg1, rfl, by simp⟩, by simp⟩
theorem Acd : (Rows.garageResumesRow.wf (OpenSpec.ofChange Rows.garageResumesSpec)) = true := by kernel_rfl
theorem Ace : (Tryz.f14.params.all (Tryz.prog.readableRec ·)) = true := by kernel_rfl
theorem Acf : (namedTie Tryz.prog Rows.garageResumesRow.named Rows.garageResumesSpec.vars) = true := by kernel_rfl
theorem Acg : ((Rows.garageResumesRow.stops == [])) = true := by kernel_rfl
theorem Ach : ((Rows.garageResumesRow.knobs == [])) = true := by kernel_rfl
theorem Aci : ((Rows.garageResumesRow.inPlace == Tryz.prog.inPlace 14)) = true := by kernel_rfl
theorem Aad : ((Rows.garageResumesRow.unfollowed == Tryz.prog.unfollowed 14)) = true := by kernel_rfl
theorem Aae : ((Rows.garageResumesRow.recurses == Tryz.prog.recurses 14)) = true := by kernel_rfl
theorem Aaf : ((Rows.garageResumesRow.named == Tryz.prog.varsNamed 14)) = true := by kernel_rfl
theorem Aag : ((Rows.garageResumesRow.maps == (Tryz.f14.params.toList ++ Rows.garageResumesSpec.plain.varTypes Tryz.prog).any (Tryz.prog.mapsRec ·))) = true := by kernel_rfl
theorem Aah : ((Rows.garageResumesRow.ifaces == (Tryz.f14.params.toList ++ Rows.garageResumesSpec.plain.varTypes Tryz.prog).any (Tryz.prog.ifacesRec ·))) = true := by kernel_rfl
theorem Aai : ((Rows.garageResumesRow.mapsOut == Tryz.prog.mapsAmong Tryz.f14.resultTypes.toList)) = true := by kernel_rfl
theorem Aaj : ((Rows.garageResumesRow.loops == (Tryz.f14.params.toList ++ Rows.garageResumesSpec.plain.varTypes Tryz.prog).any (Tryz.prog.loopsFrom ·))) = true := by kernel_rfl
theorem Aak : ((Rows.garageResumesRow.wideKeys == (Tryz.f14.params.toList ++ Rows.garageResumesSpec.plain.varTypes Tryz.prog ++ Tryz.f14.resultTypes.toList).any (Tryz.prog.wideKeysFrom ·))) = true := by kernel_rfl
theorem Aal : (Rows.garageResumesSpec.vars.all (Tryz.prog.varReadable ·)) = true := by kernel_rfl
theorem Aam : (Tryz.f14.resultTypes.all (fun t => Tryz.prog.readableRec t && decide (t < Tryz.prog.types.size))) = true := by kernel_rfl
theorem Aan : ((Rows.garageResumesRow.ifacesOut == Tryz.f14.resultTypes.toList.any (Tryz.prog.ifacesRec ·))) = true := by kernel_rfl
theorem Aao : ((Rows.garageResumesRow.loopsOut == Tryz.f14.resultTypes.toList.any (Tryz.prog.loopsFrom ·))) = true := by kernel_rfl
theorem Aap : (Rows.garageResumesRow.shortTexts.isNone) = true := by kernel_rfl
theorem Aaq : ((Rows.garageResumesRow.kinds == (if Rows.garageResumesRow.domain.isEmpty then [] else Tryz.f14.params.toList.map fun t => match Tryz.prog.underlying t with | some (.int k) => some k | _ => none))) = true := by kernel_rfl
theorem Aar : ((Rows.garageResumesRow.pinned == Rows.garageResumesRow.pinnedBy)) = true := by kernel_rfl
theorem Aas : ((Rows.garageResumesRow.veiled == (Tryz.f14.params.toList ++ Rows.garageResumesSpec.plain.varTypes Tryz.prog ++ Tryz.f14.resultTypes.toList).any (Tryz.prog.veiledRec ·))) = true := by kernel_rfl
theorem Aat : (Rows.garageResumesRow.veiledFits Tryz.prog Tryz.f14.params.toList (Tryz.f14.params.toList ++ Rows.garageResumesSpec.plain.varTypes Tryz.prog ++ Tryz.f14.resultTypes.toList)) = true := by kernel_rfl
theorem Vh : joinedFacts Tryz.prog 14 Tryz.f14 Rows.garageResumesSpec Rows.garageResumesRow = true := by
 unfold joinedFacts
 exact BM (BM (BM (BM (BM (BM (BM (BM (BM (BM (BM (BM (BM (BM (BM (BM (BM (BM (BM (BM (BM (BM (BM (BM (BM (BM (BM (BM (BM (BM (BM (Acd) Y5) Au0) Ace) Acf) Acg) ArY) Ach) ArZ) Aci) Aad) Aae) Aaf) Aag) Aah) Aai) Aaj) Aak) Aal) Aam) Aan) Aao) Asa) Aap) Asb) Asc) Asd) Au1) Aaq) Aar) Aas) Aat
theorem Y6 : false = Rows.garageResumesRow.goesBy Tryz.prog := by kernel_rfl
theorem Acj : Rows.garageResumesRow.wfByText (OpenSpec.ofChange Rows.garageResumesSpec) = true := by kernel_rfl
theorem NW : Tryz.prog.funcNamed "layover/layoverlaw12.GarageResumes" = some 14 := by kernel_rfl
theorem Xs : ([78, 22].all fun u => !Tryz.prog.wantsStandIn u) = true := by kernel_rfl
theorem Aau : Rows.GarageResumesSaid :=
 OpenClaim.holds_of_wide 14 Tryz.f14 rfl rfl rfl rfl rfl rfl rfl ⟨rfl, rfl, rfl, rfl, rfl⟩ rfl rfl rfl rfl rfl NW Tryz.func14 Vh
  (of_decide_eq_true (by kernel_rfl)) (by unfold Func.isWrapper; rw [if_neg (of_decide_eq_false (by kernel_rfl))]; exact ⟨rfl, rfl⟩)
  (fun os started H enc _ => Vg os started H enc)
theorem garageResumes_holds : Rows.GarageResumesCardSaid :=
 Claim7.holds_tied_plain_at .later [] Rows.garageResumesCard.laidKinds true Rows.garageResumesCard.stood.harness true
  Aau (fun _ h => by cases h) Acj (fun _ h => by cases h) garageResumes_row_tie rfl ⟨rfl, rfl⟩ Au2 rfl
  (fun f fn hf hfn => by
   obtain rfl : f = 14 := Option.some.inj (NW.symm.trans hf) |>.symm
   obtain rfl : fn = Tryz.f14 := (Option.some.inj (Tryz.func14.symm.trans hfn)).symm
   exact ⟨Ase, fun j t ht => by
    rw [Tryz.params14] at ht
    have hm : t ∈ [78, 22] := by simpa using Array.mem_of_getElem? ht
    exact (show Tryz.prog.wantsStandIn t = false by simpa using ZaD.1 Xs t hm)⟩)
  Y6
end Go.Proofs.YtkpgggfibljflaaGreatDoor
