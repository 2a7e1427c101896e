/- GarageLates, for every input. -/
import Derived.Test.YtkpgggfibljflaaGreatDoorgFE01
import Derived.Test.YtkpgggfibljflaaGreatDoorgFL05
set_option linter.all false
set_option maxRecDepth 100000
namespace Go.Proofs.YtkpgggfibljflaaGreatDoor
open Go Go.RowKit Go.ChangeShapes Go.WideShapes Go.ChangeAt Go.Proofs Go.Proofs.YtkpgggfibljflaaGreatDoor Tryz Rows
theorem Ak9 (n:Nat) (lines:List ByteArray) (bus:Int):(ZeX n [.lst 9 lines,.int .i64 bus] 0 []).runK some=(Jv n lines bus).bind fun y=>some ⟨false,.bool y.1,[],0⟩:=by kernel_rfl
set_option maxHeartbeats 800000 in
theorem Aac (os:Os) (started:os.Started) (H:Type) (enc:TypeId × Value→H) :
  ReturnsInHanded {} checked os 8 .any (fun w args=>(garageLatesSpec.pre enc prog f8 garageLatesRow.domain false w args∧laidMetH prog garageLatesRow.laid w)∧sizedMet enc prog f8 (OpenSpec.ofChange garageLatesSpec) false w args) (garageLatesSpec.post enc prog f8 false true false false):=by
 refine SN (C:=checked) (X:=fun w _=>laidMetH prog AhF w) (fun _ _ _ hh h=>h.of_heap hh) Aur started (by kernel_rfl) func8
  (ChangeSpec.witness_shaped (enc:=enc) (C:=checked) (os:=os) (X:=fun w _=>laidMetH prog AhF w) false (World.laidAll prog os AhF) #[.slice none 0 0,.int .i64 0] 8 (World.laidAll_os _ _ _) (World.shaped_of_ZipB (by kernel_rfl) (by kernel_rfl)) (by kernel_rfl) (by kernel_rfl) (by kernel_rfl) (by rw [MakeChecks.laidMetH_plain _ _ _ (by kernel_rfl)];exact laidMet_laidAll _ (by kernel_rfl) (by kernel_rfl))) ?_
 intro W base args ds gs before hval0 hW hz0 hL hsh
 have hval:∀ (j:Nat) t v,f8.params[j]?=some t→args[j]?=some v→Value.okWide prog W .any base t v:=hval0
 have hW':=hW
 obtain ⟨p,q,hA0,hV,rfl,_,_⟩:=hW
 have hA:DataW.TrodAll enc prog W 0 (fun _=>true) true f8.params.toList args.toList ds p:=hA0
 have hz:(DataW.weightsEach prog (f8.params.toList++garageLatesSpec.plain.varTypes prog) (ds++gs)).all (·≤reachBytes)=true:=hz0
 rw [params8] at hA hval hz
 obtain ⟨v0,vs0,d0,ds0,p0,q0,ha0,rfl,rfl,h0,hA⟩:=trodAll_cons hA
 obtain ⟨v1,vs1,d1,ds1,p1,q1,rfl,rfl,rfl,h1,hA⟩:=trodAll_cons hA
 obtain ⟨rfl,rfl,rfl⟩:=trodAll_nil hA
 obtain rfl:args=#[v0,v1]:=by cases args;simp_all
 obtain ⟨rfl,rfl⟩:=trodVars_none hV
 obtain ⟨lines,alines,clines,rfl,hlines,rlines⟩:=ArO Auu underlying22 (hval 0 22 v0 rfl rfl) h0
 obtain ⟨bus,rfl,rfl,rfl,wbus⟩:=open_int underlying3 (hval 1 3 v1 rfl rfl) h1
 have lenlines:lines.length≤4000000000000000000:=by
  rcases Aoc underlying22 h0 with hn|⟨es,rs,rfl,hl⟩
  · omega
  · have:=sized_slice hz (j:=0) (t:=22) (e:=9) rfl rfl underlying22
    rw [show prog.bytesOf 9=16 by kernel_rfl,hl,show reachBytes=140737488351232 from rfl] at this
    omega
 clear hA0 hval0 hz hz0
 simp only [Zbg] at hW'
 have hlt:∀ z∈p0,z.block < W.heap.size:=fun z hz=>hW'.lt z (by simpa using hz)
 refine (Al0 (V6 (lines.length + 2000)) (by decide) (Aut hL hsh) ((Ak9 (lines.length + 2000) lines bus).trans (by rw [At4 (by omega) (by omega)];rfl)) (by kernel_rfl) (vals:=[.slice alines lines.length clines,.int .i64 bus]) ?_).mono fun e W' ⟨he,hb⟩=>?_
 · exact (Aod hlines (Auw Auv))
 subst he
 have harg0:DataW.Trod enc prog W' 0 (fun b=>decide (b < W.heap.size)) true 22 (.slice alines lines.length clines) d0 p0:=
  Below.trod Ui (by kernel_rfl) (of_decide_eq_true (by kernel_rfl)) h0 hb (fun z hz=>hlt z hz)
 refine ⟨_,rfl,_,_,_,[],p0,[],hW',?_,?_,rfl,hb.frame _,fun h=>by cases h⟩
 · exact trodAll_mk1 (shut_bool underlying4 _)
 · exact ⟨p0,[],harg0,⟨[],[],shut_int underlying3 wbus,rfl,by simp⟩,by simp⟩
theorem AhN:(garageLatesRow.wf (OpenSpec.ofChange garageLatesSpec))=true:=by kernel_rfl
theorem AhO:(f8.params.all (prog.readableRec ·))=true:=by kernel_rfl
theorem AhP:(namedTie prog garageLatesRow.named garageLatesSpec.vars)=true:=by kernel_rfl
theorem AhQ:((garageLatesRow.stops==[]))=true:=by kernel_rfl
theorem AhR:((garageLatesRow.knobs==[]))=true:=by kernel_rfl
theorem AhS:((garageLatesRow.inPlace==prog.inPlace 8))=true:=by kernel_rfl
theorem Agp:((garageLatesRow.unfollowed==prog.unfollowed 8))=true:=by kernel_rfl
theorem Agq:((garageLatesRow.recurses==prog.recurses 8))=true:=by kernel_rfl
theorem Agr:((garageLatesRow.named==prog.varsNamed 8))=true:=by kernel_rfl
theorem Ags:((garageLatesRow.maps==(f8.params.toList++garageLatesSpec.plain.varTypes prog).any (prog.mapsRec ·)))=true:=by kernel_rfl
theorem Agt:((garageLatesRow.ifaces==(f8.params.toList++garageLatesSpec.plain.varTypes prog).any (prog.ifacesRec ·)))=true:=by kernel_rfl
theorem Agu:((garageLatesRow.mapsOut==prog.mapsAmong f8.resultTypes.toList))=true:=by kernel_rfl
theorem Agv:((garageLatesRow.loops==(f8.params.toList++garageLatesSpec.plain.varTypes prog).any (prog.loopsFrom ·)))=true:=by kernel_rfl
theorem Agw:((garageLatesRow.wideKeys==(f8.params.toList++garageLatesSpec.plain.varTypes prog++f8.resultTypes.toList).any (prog.wideKeysFrom ·)))=true:=by kernel_rfl
theorem Agx:(garageLatesSpec.vars.all (prog.varReadable ·))=true:=by kernel_rfl
theorem Agy:(f8.resultTypes.all (fun t=>prog.readableRec t && decide (t < prog.types.size)))=true:=by kernel_rfl
theorem Agz:((garageLatesRow.ifacesOut==f8.resultTypes.toList.any (prog.ifacesRec ·)))=true:=by kernel_rfl
theorem Ag0:((garageLatesRow.loopsOut==f8.resultTypes.toList.any (prog.loopsFrom ·)))=true:=by kernel_rfl
theorem Ag1:(garageLatesRow.shortTexts.isNone)=true:=by kernel_rfl
theorem Ag2:((garageLatesRow.kinds==(if garageLatesRow.domain.isEmpty then [] else f8.params.toList.map fun t=>match prog.underlying t with|some (.int k)=>some k|_=>none)))=true:=by kernel_rfl
theorem Ag3:((garageLatesRow.pinned==garageLatesRow.pinnedBy))=true:=by kernel_rfl
theorem Ag4:((garageLatesRow.veiled==(f8.params.toList++garageLatesSpec.plain.varTypes prog++f8.resultTypes.toList).any (prog.veiledRec ·)))=true:=by kernel_rfl
theorem Ag5:(garageLatesRow.veiledFits prog f8.params.toList (f8.params.toList++garageLatesSpec.plain.varTypes prog++f8.resultTypes.toList))=true:=by kernel_rfl
theorem Aad:joinedFacts prog 8 f8 garageLatesSpec garageLatesRow=true:=by
 unfold joinedFacts
 exact AF (AF (AF (AF (AF (AF (AF (AF (AF (AF (AF (AF (AF (AF (AF (AF (AF (AF (AF (AF (AF (AF (AF (AF (AF (AF (AF (AF (AF (AF (AF (AhN) Ui) ArP) AhO) AhP) AhQ) Aoe) AhR) Aof) AhS) Agp) Agq) Agr) Ags) Agt) Agu) Agv) Agw) Agx) Agy) Agz) Ag0) Aog) Ag1) Aoh) Aoi) Aoj) ArQ) Ag2) Ag3) Ag4) Ag5
theorem Adt:false=garageLatesRow.goesBy prog:=by kernel_rfl
theorem AhT:garageLatesRow.wfByText (OpenSpec.ofChange garageLatesSpec)=true:=by kernel_rfl
theorem R0:prog.funcNamed "layover/layoverlaw12.GarageLates"=some 8:=by kernel_rfl
theorem Ab5:([22,3].all fun u=>!prog.wantsStandIn u)=true:=by kernel_rfl
theorem Ag6:GarageLatesSaid:=
 OpenClaim.holds_of_wide 8 f8 rfl rfl rfl rfl rfl rfl rfl ⟨rfl,rfl,rfl,rfl,rfl⟩ rfl rfl rfl rfl rfl R0 func8 Aad
  (of_decide_eq_true (by kernel_rfl)) (by unfold Func.isWrapper;rw [if_neg (of_decide_eq_false (by kernel_rfl))];exact ⟨rfl,rfl⟩)
  (fun os started H enc _=>Aac os started H enc)
theorem garageLates_holds:GarageLatesCardSaid:=
 Claim7.holds_tied_plain_at .later [] garageLatesCard.laidKinds true garageLatesCard.stood.harness true
  Ag6 (fun _ h=>by cases h) AhT (fun _ h=>by cases h) garageLates_row_tie rfl ⟨rfl,rfl⟩ ArR rfl
  (fun f fn hf hfn=>by
   obtain rfl:f=8:=Option.some.inj (R0.symm.trans hf) |>.symm
   obtain rfl:fn=f8:=(Option.some.inj (func8.symm.trans hfn)).symm
   exact ⟨Aok,fun j t ht=>by
    rw [params8] at ht
    have hm:t∈[22,3]:=by simpa using Array.mem_of_getElem? ht
    exact (show prog.wantsStandIn t=false by simpa using Za8.1 Ab5 t hm)⟩)
  Adt
end Go.Proofs.YtkpgggfibljflaaGreatDoor
