/- GaragePlays, for every input. -/
import Derived.Test.YtkpgggfibljflaaGreatDoorgFE01
import Derived.Test.YtkpgggfibljflaaGreatDoorgFL05
set_option linter.all false
set_option maxRecDepth 100000
namespace Go.Proofs.YtkpgggfibljflaaGreatDoor
open Go Go.RowKit Go.ChangeShapes Go.WideShapes Go.ChangeAt Go.Proofs Go.Proofs.YtkpgggfibljflaaGreatDoor Tryz Rows
theorem Ak8 (n:Nat) (lines:List ByteArray):(ZeW n [.lst 9 lines] 0 []).runK some=(Ju n lines).bind fun y=>some ⟨false,.bool y.1,[],0⟩:=by kernel_rfl
set_option maxHeartbeats 800000 in
theorem Aaa (os:Os) (started:os.Started) (H:Type) (enc:TypeId × Value→H) :
  ReturnsInHanded {} checked os 3 .any (fun w args=>(garagePlaysSpec.pre enc prog f3 garagePlaysRow.domain false w args∧laidMetH prog garagePlaysRow.laid w)∧sizedMet enc prog f3 (OpenSpec.ofChange garagePlaysSpec) false w args) (garagePlaysSpec.post enc prog f3 false true false false):=by
 refine SN (C:=checked) (X:=fun w _=>laidMetH prog AhF w) (fun _ _ _ hh h=>h.of_heap hh) Aur started (by kernel_rfl) func3
  (ChangeSpec.witness_shaped (enc:=enc) (C:=checked) (os:=os) (X:=fun w _=>laidMetH prog AhF w) false (World.laidAll prog os AhF) #[.slice none 0 0] 8 (World.laidAll_os _ _ _) (World.shaped_of_ZipB (by kernel_rfl) (by kernel_rfl)) (by kernel_rfl) (by kernel_rfl) (by kernel_rfl) (by rw [MakeChecks.laidMetH_plain _ _ _ (by kernel_rfl)];exact laidMet_laidAll _ (by kernel_rfl) (by kernel_rfl))) ?_
 intro W base args ds gs before hval0 hW hz0 hL hsh
 have hval:∀ (j:Nat) t v,f3.params[j]?=some t→args[j]?=some v→Value.okWide prog W .any base t v:=hval0
 have hW':=hW
 obtain ⟨p,q,hA0,hV,rfl,_,_⟩:=hW
 have hA:DataW.TrodAll enc prog W 0 (fun _=>true) true f3.params.toList args.toList ds p:=hA0
 have hz:(DataW.weightsEach prog (f3.params.toList++garagePlaysSpec.plain.varTypes prog) (ds++gs)).all (·≤reachBytes)=true:=hz0
 rw [params3] at hA hval hz
 obtain ⟨v0,vs0,d0,ds0,p0,q0,ha0,rfl,rfl,h0,hA⟩:=trodAll_cons hA
 obtain ⟨rfl,rfl,rfl⟩:=trodAll_nil hA
 obtain rfl:args=#[v0]:=by cases args;simp_all
 obtain ⟨rfl,rfl⟩:=trodVars_none hV
 obtain ⟨lines,alines,clines,rfl,hlines,rlines⟩:=ArO Auu underlying22 (hval 0 22 v0 rfl rfl) h0
 have lenlines:lines.length≤4000000000000000000:=by
  rcases Aoc underlying22 h0 with hn|⟨es,rs,rfl,hl⟩
  · omega
  · have:=sized_slice hz (j:=0) (t:=22) (e:=9) rfl rfl underlying22
    rw [show prog.bytesOf 9=16 by kernel_rfl,hl,show reachBytes=140737488351232 from rfl] at this
    omega
 clear hA0 hval0 hz hz0
 simp only [Zbg] at hW'
 have hlt:∀ z∈p0,z.block < W.heap.size:=fun z hz=>hW'.lt z (by simpa using hz)
 refine (Al0 (V5 (lines.length + 2000)) (by decide) (Aut hL hsh) ((Ak8 (lines.length + 2000) lines).trans (by rw [At3 (by omega) (by omega)];rfl)) (by kernel_rfl) (vals:=[.slice alines lines.length clines]) ?_).mono fun e W' ⟨he,hb⟩=>?_
 · exact (Aod hlines Auv)
 subst he
 have harg0:DataW.Trod enc prog W' 0 (fun b=>decide (b < W.heap.size)) true 22 (.slice alines lines.length clines) d0 p0:=
  Below.trod Ui (by kernel_rfl) (of_decide_eq_true (by kernel_rfl)) h0 hb (fun z hz=>hlt z hz)
 refine ⟨_,rfl,_,_,_,[],p0,[],hW',?_,?_,rfl,hb.frame _,fun h=>by cases h⟩
 · exact trodAll_mk1 (shut_bool underlying4 _)
 · exact ⟨p0,[],harg0,rfl,by simp⟩
theorem AhG:(garagePlaysRow.wf (OpenSpec.ofChange garagePlaysSpec))=true:=by kernel_rfl
theorem AhH:(f3.params.all (prog.readableRec ·))=true:=by kernel_rfl
theorem AhI:(namedTie prog garagePlaysRow.named garagePlaysSpec.vars)=true:=by kernel_rfl
theorem AhJ:((garagePlaysRow.stops==[]))=true:=by kernel_rfl
theorem AhK:((garagePlaysRow.knobs==[]))=true:=by kernel_rfl
theorem AhL:((garagePlaysRow.inPlace==prog.inPlace 3))=true:=by kernel_rfl
theorem AfX:((garagePlaysRow.unfollowed==prog.unfollowed 3))=true:=by kernel_rfl
theorem AfY:((garagePlaysRow.recurses==prog.recurses 3))=true:=by kernel_rfl
theorem AfZ:((garagePlaysRow.named==prog.varsNamed 3))=true:=by kernel_rfl
theorem Aga:((garagePlaysRow.maps==(f3.params.toList++garagePlaysSpec.plain.varTypes prog).any (prog.mapsRec ·)))=true:=by kernel_rfl
theorem Agb:((garagePlaysRow.ifaces==(f3.params.toList++garagePlaysSpec.plain.varTypes prog).any (prog.ifacesRec ·)))=true:=by kernel_rfl
theorem Agc:((garagePlaysRow.mapsOut==prog.mapsAmong f3.resultTypes.toList))=true:=by kernel_rfl
theorem Agd:((garagePlaysRow.loops==(f3.params.toList++garagePlaysSpec.plain.varTypes prog).any (prog.loopsFrom ·)))=true:=by kernel_rfl
theorem Age:((garagePlaysRow.wideKeys==(f3.params.toList++garagePlaysSpec.plain.varTypes prog++f3.resultTypes.toList).any (prog.wideKeysFrom ·)))=true:=by kernel_rfl
theorem Agf:(garagePlaysSpec.vars.all (prog.varReadable ·))=true:=by kernel_rfl
theorem Agg:(f3.resultTypes.all (fun t=>prog.readableRec t && decide (t < prog.types.size)))=true:=by kernel_rfl
theorem Agh:((garagePlaysRow.ifacesOut==f3.resultTypes.toList.any (prog.ifacesRec ·)))=true:=by kernel_rfl
theorem Agi:((garagePlaysRow.loopsOut==f3.resultTypes.toList.any (prog.loopsFrom ·)))=true:=by kernel_rfl
theorem Agj:(garagePlaysRow.shortTexts.isNone)=true:=by kernel_rfl
theorem Agk:((garagePlaysRow.kinds==(if garagePlaysRow.domain.isEmpty then [] else f3.params.toList.map fun t=>match prog.underlying t with|some (.int k)=>some k|_=>none)))=true:=by kernel_rfl
theorem Agl:((garagePlaysRow.pinned==garagePlaysRow.pinnedBy))=true:=by kernel_rfl
theorem Agm:((garagePlaysRow.veiled==(f3.params.toList++garagePlaysSpec.plain.varTypes prog++f3.resultTypes.toList).any (prog.veiledRec ·)))=true:=by kernel_rfl
theorem Agn:(garagePlaysRow.veiledFits prog f3.params.toList (f3.params.toList++garagePlaysSpec.plain.varTypes prog++f3.resultTypes.toList))=true:=by kernel_rfl
theorem Aab:joinedFacts prog 3 f3 garagePlaysSpec garagePlaysRow=true:=by
 unfold joinedFacts
 exact AF (AF (AF (AF (AF (AF (AF (AF (AF (AF (AF (AF (AF (AF (AF (AF (AF (AF (AF (AF (AF (AF (AF (AF (AF (AF (AF (AF (AF (AF (AF (AhG) Ui) ArP) AhH) AhI) AhJ) Aoe) AhK) Aof) AhL) AfX) AfY) AfZ) Aga) Agb) Agc) Agd) Age) Agf) Agg) Agh) Agi) Aog) Agj) Aoh) Aoi) Aoj) ArQ) Agk) Agl) Agm) Agn
theorem Ads:false=garagePlaysRow.goesBy prog:=by kernel_rfl
theorem AhM:garagePlaysRow.wfByText (OpenSpec.ofChange garagePlaysSpec)=true:=by kernel_rfl
theorem Rz:prog.funcNamed "layover/layoverlaw12.GaragePlays"=some 3:=by kernel_rfl
theorem Ab4:([22].all fun u=>!prog.wantsStandIn u)=true:=by kernel_rfl
theorem Ago:GaragePlaysSaid:=
 OpenClaim.holds_of_wide 3 f3 rfl rfl rfl rfl rfl rfl rfl ⟨rfl,rfl,rfl,rfl,rfl⟩ rfl rfl rfl rfl rfl Rz func3 Aab
  (of_decide_eq_true (by kernel_rfl)) (by unfold Func.isWrapper;rw [if_neg (of_decide_eq_false (by kernel_rfl))];exact ⟨rfl,rfl⟩)
  (fun os started H enc _=>Aaa os started H enc)
theorem garagePlays_holds:GaragePlaysCardSaid:=
 Claim7.holds_tied_plain_at .later [] garagePlaysCard.laidKinds true garagePlaysCard.stood.harness true
  Ago (fun _ h=>by cases h) AhM (fun _ h=>by cases h) garagePlays_row_tie rfl ⟨rfl,rfl⟩ ArR rfl
  (fun f fn hf hfn=>by
   obtain rfl:f=3:=Option.some.inj (Rz.symm.trans hf) |>.symm
   obtain rfl:fn=f3:=(Option.some.inj (func3.symm.trans hfn)).symm
   exact ⟨Aok,fun j t ht=>by
    rw [params3] at ht
    have hm:t∈[22]:=by simpa using Array.mem_of_getElem? ht
    exact (show prog.wantsStandIn t=false by simpa using Za8.1 Ab4 t hm)⟩)
  Ads
end Go.Proofs.YtkpgggfibljflaaGreatDoor
