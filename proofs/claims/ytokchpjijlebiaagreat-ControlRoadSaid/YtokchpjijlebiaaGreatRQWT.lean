/- Each call computes its plain function. -/
import Derived.Test.YtokchpjijlebiaaGreatProg
import Derived.Test.YtokchpjijlebiaaGreatRQWR
set_option linter.all false
namespace Go.Proofs.YtokchpjijlebiaaGreat
open Go Go.RowKit
set_option maxRecDepth 100000
set_option maxHeartbeats 4000000
open Rep (rep)
open KRep (kv)
open VRep (rv)
abbrev Tu (a)(cV:List Bool)(r_:Af)(cP:List Int)(x9:List Int):=([tS 21 (some ⟨a,8,none⟩) cV.length 2,tI 20 ((r_.lC.length:Nat):Int),tP 17 0 8,tS 15 (some ⟨a,4,none⟩) cP.length 4,tS 9 (some ⟨a,0,none⟩) x9.length 4,tP 4 2 0]:TM)
theorem Dp (n:Nat) {h:Ae} {w:World} (hh:Dk h w) (d:Ar) {eF:Wx} (fU:rep h d eF) (r_:Af) {aP:Wx} (aW:rep h r_ aP) {r:An} (H:Cl n d r_=some r) :
  Calls Tryz.prog 50 #[.agg eF.toArray,.agg aP.toArray] w (Dq (fun h v=>∃ cs,v=.agg cs.toArray∧rep h r cs) h w):=by
 obtain⟨_,_,rfl,⟨_,_,rfl,rfl,⟨_,_,rfl,rfl,⟨_,_,rfl,rfl,rfl⟩⟩⟩,⟨_,_,rfl,⟨_,_,rfl,rfl,⟨_,_,rfl,rfl,⟨_,_,rfl,rfl,rfl⟩⟩⟩,⟨_,_,rfl,rfl,rfl⟩⟩⟩:=fU
 obtain⟨_,_,rfl,⟨j,m,rfl,ce⟩,⟨_,_,rfl,⟨_,_,rfl,rfl,rfl⟩,⟨_,_,rfl,⟨k,o,rfl,cf⟩,⟨_,_,rfl,⟨l,p,rfl,cg⟩,⟨_,_,rfl,rfl,⟨_,_,rfl,rfl,⟨_,_,rfl,rfl,rfl⟩⟩⟩⟩⟩⟩⟩:=aW
 refine enter 24 [.agg (DA d),.agg (UB j r_ m k o l p)] Tryz.func50 rfl rfl rfl rfl fun t hk=>?_
 have hm:=Ah.begin h w hh
 unfold Cl at H
 refine XT (Aa (wl fun K hK=>?_))
 refine wb (.agg (DA d)) hk hm fun a b0 cn (a9:Kn 24 [(a,0)] [tP 2 0 0,tA 0 (DA d),tA 1 (UB j r_ m k o l p)] b0) bo=>hK _ _ ?_
 refine wl fun K hK=>?_
 refine wb (.agg (UB j r_ m k o l p)) a9 bo fun f b1 co (ba:Kn 24 [(a,0),(f,0)] [tP 3 1 0,tP 2 0 0,tA 0 (DA d),tA 1 (UB j r_ m k o l p)] b1) bp=>hK _ _ ?_
 refine wl fun K hK=>?_
 refine wa UE ba bp fun g aw b9 (bb:Kn 24 [(a,0),(f,0),(g,0)] [tP 4 2 0,tP 3 1 0,tP 2 0 0,tA 0 (DA d),tA 1 (UB j r_ m k o l p)] aw) ab=>hK _ _ ?_
 have bc:Kn 24 [(a,0),(f,0),(g,0)] [tP 4 2 0,tP 3 1 0,tP 2 0 0] aw:=bb.kp
 refine wf (XT (Am (by kernel_rfl) ?_))
 replace ab:=ab.drew
 refine Ao [] [(a,0),(f,0),(g,0)] [⟨DA d,some 105⟩,⟨UB j r_ m k o l p,some 48⟩,⟨UE,some 50⟩] ?_
 refine Dr [0,1,2,3] (dn 3) [tI 8 ((r_.lB.length:Nat):Int),tP 5 0 0,tP 4 2 0,tP 3 1 0,tP 2 0 0] bc ab fun ch bd=>?_
 obtain⟨b,cd,ak,q⟩:=ab.settlePlc (i:=0) rfl
 replace q:Ah ⟨w,h,A6⟩ b [(a,0),(f,0),(g,0)] [⟨DA d,none⟩,⟨UB j r_ m k o l p,some 48⟩,⟨UE,some 50⟩] [] (World.drew b9):=q
 have cc:CY b a (d:Ar):=CY.of (e:=[(a,0),(f,0),(g,0)]) (cs:=(DA d)) ((Ab (Ab Ac (Ab Ac (Ab Ac Ac))) (Ab (Ab Ac (Ab Ac (Ab Ac Ac))) (Ab B3 B3))):rep b (d:Ar) _) rfl ak
 have ac:AL b a [.int .i64 d.lD.a0,.int .i64 d.lD.a1,.int .i64 d.lD.a2,.int .i64 d.lD.a3,.int .i64 d.lE.a0,.int .i64 d.lE.a1,.int .i64 d.lE.a2,.int .i64 d.lE.a3,.bool d.lC.a0,.bool d.lC.a1]:=AL.of (e:=[(a,0),(f,0),(g,0)]) (cs:=[.int .i64 d.lD.a0,.int .i64 d.lD.a1,.int .i64 d.lD.a2,.int .i64 d.lD.a3,.int .i64 d.lE.a0,.int .i64 d.lE.a1,.int .i64 d.lE.a2,.int .i64 d.lE.a3,.bool d.lC.a0,.bool d.lC.a1]) rfl ak
 refine Cf (e':=[(a,0),(f,0),(g,0)]) (pl':=[⟨DA d,none⟩,⟨UB j r_ m k o l p,some 48⟩,⟨UE,some 50⟩]) (fun _ hp=>Ay.same hp rfl) ?_
 obtain⟨x9,iL,H⟩:=Av H
 obtain⟨bu,ao,ar⟩:=KU iL
 have a5:Ag b ([d.lD.a0,d.lD.a1,d.lD.a2,d.lD.a3]:List Int) [.int .i64 d.lD.a0,.int .i64 d.lD.a1,.int .i64 d.lD.a2,.int .i64 d.lD.a3]:=⟨_,_,rfl,(Ac:rep b (d.lD.a0:Int) _),⟨_,_,rfl,(Ac:rep b (d.lD.a1:Int) _),⟨_,_,rfl,(Ac:rep b (d.lD.a2:Int) _),⟨_,_,rfl,(Ac:rep b (d.lD.a3:Int) _),rfl⟩⟩⟩⟩
 have bx:A4 b (some ⟨a,0,none⟩) 4 x9:=by rw [ar]; exact A4.ofBox 0 4 1 rfl a5 ac rfl rfl _
 have br:(((r_.lB.length:Nat):Int):Int).toNat=x9.length:=by rw [ar,WZ]; simp at ao ⊢; omega
 refine O9 (E:=3) 4 1 _ ⟨a,0,none⟩ (fun _ _ _ _ _ h=>h) bd rfl rfl (rfl) rfl (by decide) (by kernel_rfl) (by kernel_rfl) q.plOk (by rfl) (by rfl) (by kernel_rfl) (by kernel_rfl) bu ao rfl br fun b2 (be:Kn 24 [(a,0),(f,0),(g,0)] [tS 9 (some ⟨a,0,none⟩) x9.length 4,tI 8 ((r_.lB.length:Nat):Int),tP 5 0 0,tP 4 2 0,tP 3 1 0,tP 2 0 0] b2)=>?_
 refine Dr [6,7,8,9] [9,8,7,6,4,3,2,1,0] [tI 14 ((r_.lB.length:Nat):Int),tP 11 0 4,tS 9 (some ⟨a,0,none⟩) x9.length 4,tP 4 2 0,tP 3 1 0,tP 2 0 0] be q fun ci bf=>?_
 obtain⟨cP,jE,H⟩:=Av H
 obtain⟨bv,ap,au⟩:=KU jE
 have a6:Ag b ([d.lE.a0,d.lE.a1,d.lE.a2,d.lE.a3]:List Int) [.int .i64 d.lE.a0,.int .i64 d.lE.a1,.int .i64 d.lE.a2,.int .i64 d.lE.a3]:=⟨_,_,rfl,(Ac:rep b (d.lE.a0:Int) _),⟨_,_,rfl,(Ac:rep b (d.lE.a1:Int) _),⟨_,_,rfl,(Ac:rep b (d.lE.a2:Int) _),⟨_,_,rfl,(Ac:rep b (d.lE.a3:Int) _),rfl⟩⟩⟩⟩
 have ag:A4 b (some ⟨a,4,none⟩) 4 cP:=by rw [au]; exact A4.ofBox 4 4 1 rfl a6 ac rfl rfl _
 have bs:(((r_.lB.length:Nat):Int):Int).toNat=cP.length:=by rw [au,WZ]; simp at ap ⊢; omega
 refine O9 (E:=3) 10 1 _ ⟨a,4,none⟩ (fun _ _ _ _ _ h=>h) bf rfl rfl (rfl) rfl (by decide) (by kernel_rfl) (by kernel_rfl) q.plOk (by rfl) (by rfl) (by kernel_rfl) (by kernel_rfl) bv ap rfl bs fun b3 (bg:Kn 24 [(a,0),(f,0),(g,0)] [tS 15 (some ⟨a,4,none⟩) cP.length 4,tI 14 ((r_.lB.length:Nat):Int),tP 11 0 4,tS 9 (some ⟨a,0,none⟩) x9.length 4,tP 4 2 0,tP 3 1 0,tP 2 0 0] b3)=>?_
 refine Dr [12,13,14,15] [15,14,13,12,10,9,8,7,6,4,3,2,1,0] [tI 20 ((r_.lC.length:Nat):Int),tP 17 0 8,tS 15 (some ⟨a,4,none⟩) cP.length 4,tS 9 (some ⟨a,0,none⟩) x9.length 4,tP 4 2 0] bg q fun cj bh=>?_
 obtain⟨cV,fQ,H⟩:=Av H
 obtain⟨bw,aq,av⟩:=KU fQ
 have a7:Ag b ([d.lC.a0,d.lC.a1]:List Bool) [.bool d.lC.a0,.bool d.lC.a1]:=⟨_,_,rfl,(B3:rep b (d.lC.a0:Bool) _),⟨_,_,rfl,(B3:rep b (d.lC.a1:Bool) _),rfl⟩⟩
 have ah:A4 b (some ⟨a,8,none⟩) 2 cV:=by rw [av]; exact A4.ofBox 8 2 1 rfl a7 ac rfl rfl _
 have bt:(((r_.lC.length:Nat):Int):Int).toNat=cV.length:=by rw [av,WZ]; simp at aq ⊢; omega
 refine O9 (E:=4) 16 1 _ ⟨a,8,none⟩ (fun _ _ _ _ _ h=>h) bh rfl rfl (rfl) rfl (by decide) (by kernel_rfl) (by kernel_rfl) q.plOk (by rfl) (by rfl) (by kernel_rfl) (by kernel_rfl) bw aq rfl bt fun b4 (bi:Kn 24 [(a,0),(f,0),(g,0)] (Tu a cV r_ cP x9) b4)=>?_
 obtain⟨bP,dS,H⟩:=Av H
 refine Dl 5 fun K hK=>?_
 refine wc [.c (Wu (some ⟨a,0,none⟩) x9.length 4)] bi q (CK n q.has x9 bx dS) fun ck ca cp ax al ad=>?_
 replace ag:=ag.mono al
 obtain⟨s,u,rfl,ai⟩:=ax
 refine⟨.one (.c (Wu s bP.length u)),rfl,fun b5 (bj:Kn 24 [(a,0),(f,0),(g,0)] ((tS 10 s bP.length u)::(Tu a cV r_ cP x9)) b5)=>hK _ _ ad.plOk ?_⟩
 obtain⟨cH,eV,H⟩:=Av H
 refine Dl 11 fun K hK=>?_
 refine wc [.c (Wu (some ⟨a,4,none⟩) cP.length 4)] bj ad (CK n ad.has cP ag eV) fun cl cb cq ay am ae=>?_
 replace ah:=ah.mono (XU al am)
 obtain⟨x,y,rfl,aj⟩:=ay
 refine⟨.one (.c (Wu x cH.length y)),rfl,fun b6 (bk:Kn 24 [(a,0),(f,0),(g,0)] ((tS 16 x cH.length y)::(tS 10 s bP.length u)::(Tu a cV r_ cP x9)) b6)=>hK _ _ ae.plOk ?_⟩
 obtain⟨fC,kE,H⟩:=Av H
 refine Dl 17 fun K hK=>?_
 refine wc [.c (Wu (some ⟨a,8,none⟩) cV.length 2)] bk ae (Hv n ae.has cV ah kE) fun cm a4 cr az an af=>?_
 replace ai:=ai.mono (XU am an)
 replace aj:=aj.mono an
 obtain⟨z,aa,rfl,bz⟩:=az
 refine⟨.one (.c (Wu z fC.length aa)),rfl,fun b7 (bl:Kn 24 [(a,0),(f,0),(g,0)] ((tS 22 z fC.length aa)::(tS 16 x cH.length y)::(tS 10 s bP.length u)::(Tu a cV r_ cP x9)) b7)=>hK _ _ af.plOk ?_⟩
 refine Dr [18] [18,17,11,5,16,15,14,13,12,10,9,8,7,6,4,3,2,1,0] [tA 23 [Wu s bP.length u,Wu x cH.length y,Wu z fC.length aa],tP 4 2 0] bl af fun b8 bm=>?_
 refine Cq 19 rfl (by kernel_rfl) (by decide) (rfl) (by kernel_rfl) fun K hK=>?_
 refine EZ 2 0 (.agg [Wu s bP.length u,Wu x cH.length y,Wu z fC.length aa]) [Wu s bP.length u,Wu x cH.length y,Wu z fC.length aa] bm af fun ct bn bq=>hK _ _ ?_
 have a8:Kn 24 [(a,0),(f,0),(g,0)] [tP 4 2 0] b8:=bn.kp
 refine Em (by kernel_rfl) (wp_ret ?_)
 obtain rfl:=XZ H
 exact rt (.one (.agg [Wu s bP.length u,Wu x cH.length y,Wu z fC.length aa])) a8 bq ⟨_,rfl,((Ab (Ad ai) (Ab (Ad aj) (Ad bz))):rep a4 ((An.mk bP cH fC):An) _)⟩
end Go.Proofs.YtokchpjijlebiaaGreat
