/- Each call computes its plain function. -/
import Derived.Test.YtokchpjijlebiaaProg
import Derived.Test.YtokchpjijlebiaaNQP0
import Derived.Test.YtokchpjijlebiaaNQWR
set_option linter.all false
namespace Go.Proofs.Ytokchpjijlebiaa
open Go Go.RowKit
open Rep (rep)
open KRep (kv)
open VRep (rv)
abbrev NS:List SC:=[.slice none 0 0,.slice none 0 0,.slice none 0 0]
abbrev JL (j:Option Addr) (r_:Ag) (m:Nat) (k:Option Addr) (o:Nat) (l:Option Addr) (p:Nat):List SC:=[.slice j r_.legs.length m,.int .i64 r_.turn.lo,.int .i64 r_.turn.hi,.slice k r_.buses.length o,.slice l r_.spares.length p,.int .i64 r_.unit,.int .i64 r_.gap,.int .i64 r_.fr,.int .i64 r_.to_]
abbrev IP (d:Aw):List SC:=[.int .i64 d.holds.a0,.int .i64 d.holds.a1,.int .i64 d.holds.a2,.int .i64 d.holds.a3,.int .i64 d.turns.a0,.int .i64 d.turns.a1,.int .i64 d.turns.a2,.int .i64 d.turns.a3,.bool d.spares.a0,.bool d.spares.a1]
abbrev NT (a:Nat) (x21:List Bool) (r_:Ag) (x15 x9:List Int):TM:=[tS 21 (some ⟨a,8,none⟩) x21.length 2,tI 20 ((r_.spares.length:Nat):Int),tP 17 0 8,tS 15 (some ⟨a,4,none⟩) x15.length 4,tS 9 (some ⟨a,0,none⟩) x9.length 4,tP 4 2 0]
set_option maxRecDepth 100000 in
set_option maxHeartbeats 4000000 in
theorem CB (n:Nat) {h:Ad} {w:World} (hh:Dv h w) (d:Aw) {cs_d:List Value} (hx_d:rep h d cs_d) (r_:Ag) {cs_r_:List Value} (hx_r_:rep h r_ cs_r_) {r:A0} (H:C2 n d r_=some r) :
  Calls Try.prog 54 #[.agg cs_d.toArray,.agg cs_r_.toArray] w (D6 (fun h v=>∃ cs,v=.agg cs.toArray∧rep h r cs) h w):=by
 obtain⟨_,_,rfl,⟨_,_,rfl,rfl,⟨_,_,rfl,rfl,⟨_,_,rfl,rfl,rfl⟩⟩⟩,⟨_,_,rfl,⟨_,_,rfl,rfl,⟨_,_,rfl,rfl,⟨_,_,rfl,rfl,rfl⟩⟩⟩,⟨_,_,rfl,rfl,rfl⟩⟩⟩:=hx_d
 obtain⟨_,_,rfl,⟨j,m,rfl,ce⟩,⟨_,_,rfl,⟨_,_,rfl,rfl,rfl⟩,⟨_,_,rfl,⟨k,o,rfl,cf⟩,⟨_,_,rfl,⟨l,p,rfl,cg⟩,⟨_,_,rfl,rfl,⟨_,_,rfl,rfl,⟨_,_,rfl,rfl,rfl⟩⟩⟩⟩⟩⟩⟩:=hx_r_
 refine enter 24 [.agg (IP d),.agg (JL j r_ m k o l p)] Try.func54 rfl rfl rfl rfl fun t hk=>?_
 have hm:=Ah.begin h w hh
 unfold C2 at H
 refine QT (Ab (wl fun K hK=>?_))
 refine wb (.agg (IP d)) hk hm fun a b0 cn (a9:Kn 24 [(a,0)] [tP 2 0 0,tA 0 (IP d),tA 1 (JL j r_ m k o l p)] b0) bo=>hK _ _ ?_
 refine wl fun K hK=>?_
 refine wb (.agg (JL j r_ m k o l p)) a9 bo fun f b1 co (ba:Kn 24 [(a,0),(f,0)] [tP 3 1 0,tP 2 0 0,tA 0 (IP d),tA 1 (JL j r_ m k o l p)] b1) bp=>hK _ _ ?_
 refine wl fun K hK=>?_
 refine wa NS ba bp fun g aw b9 (bb:Kn 24 [(a,0),(f,0),(g,0)] [tP 4 2 0,tP 3 1 0,tP 2 0 0,tA 0 (IP d),tA 1 (JL j r_ m k o l p)] aw) ab=>hK _ _ ?_
 have bc:Kn 24 [(a,0),(f,0),(g,0)] [tP 4 2 0,tP 3 1 0,tP 2 0 0] aw:=bb.kp
 refine wf (QT (Ao (by kernel_rfl) ?_))
 replace ab:=ab.drew
 refine At [] [(a,0),(f,0),(g,0)] [⟨IP d,some 102⟩,⟨JL j r_ m k o l p,some 43⟩,⟨NS,some 34⟩] ?_
 refine Dr [0,1,2,3] (dn 3) [tI 8 ((r_.buses.length:Nat):Int),tP 5 0 0,tP 4 2 0,tP 3 1 0,tP 2 0 0] bc ab fun ch bd=>?_
 obtain⟨b,cd,ak,q⟩:=ab.settlePlc (i:=0) rfl
 replace q:Ah ⟨w,h,Az⟩ b [(a,0),(f,0),(g,0)] [⟨IP d,none⟩,⟨JL j r_ m k o l p,some 43⟩,⟨NS,some 34⟩] [] (World.drew b9):=q
 have cc:Cv b a (d:Aw):=Cv.of (e:=[(a,0),(f,0),(g,0)]) (cs:=(IP d)) ((Aa (Aa Ac (Aa Ac (Aa Ac Ac))) (Aa (Aa Ac (Aa Ac (Aa Ac Ac))) (Aa AS AS))):rep b (d:Aw) _) rfl ak
 have ac:A8 b a [.int .i64 d.holds.a0,.int .i64 d.holds.a1,.int .i64 d.holds.a2,.int .i64 d.holds.a3,.int .i64 d.turns.a0,.int .i64 d.turns.a1,.int .i64 d.turns.a2,.int .i64 d.turns.a3,.bool d.spares.a0,.bool d.spares.a1]:=A8.of (e:=[(a,0),(f,0),(g,0)]) (cs:=[.int .i64 d.holds.a0,.int .i64 d.holds.a1,.int .i64 d.holds.a2,.int .i64 d.holds.a3,.int .i64 d.turns.a0,.int .i64 d.turns.a1,.int .i64 d.turns.a2,.int .i64 d.turns.a3,.bool d.spares.a0,.bool d.spares.a1]) rfl ak
 refine Dj (e':=[(a,0),(f,0),(g,0)]) (pl':=[⟨IP d,none⟩,⟨JL j r_ m k o l p,some 43⟩,⟨NS,some 34⟩]) (fun _ hp=>Am.same hp rfl) ?_
 obtain⟨x9,ex9,H⟩:=A3 H
 obtain⟨bu,ao,ar⟩:=HV ex9
 have a5:Af b ([d.holds.a0,d.holds.a1,d.holds.a2,d.holds.a3]:List Int) [.int .i64 d.holds.a0,.int .i64 d.holds.a1,.int .i64 d.holds.a2,.int .i64 d.holds.a3]:=⟨_,_,rfl,(Ac:rep b (d.holds.a0:Int) _),⟨_,_,rfl,(Ac:rep b (d.holds.a1:Int) _),⟨_,_,rfl,(Ac:rep b (d.holds.a2:Int) _),⟨_,_,rfl,(Ac:rep b (d.holds.a3:Int) _),rfl⟩⟩⟩⟩
 have bx:Ar b (some ⟨a,0,none⟩) 4 x9:=by rw [ar]; exact Ar.ofBox 0 4 1 rfl a5 ac rfl rfl _
 have br:(((r_.buses.length:Nat):Int):Int).toNat=x9.length:=by rw [ar,List.length_take]; simp at ao ⊢; omega
 refine Kt (E:=3) 4 1 _ ⟨a,0,none⟩ (fun _ _ _ _ _ h=>h) bd rfl rfl (rfl) rfl (by decide) (by kernel_rfl) (by kernel_rfl) q.plOk (by rfl) (by rfl) (by kernel_rfl) (by kernel_rfl) bu ao rfl br fun b2 (be:Kn 24 [(a,0),(f,0),(g,0)] [tS 9 (some ⟨a,0,none⟩) x9.length 4,tI 8 ((r_.buses.length:Nat):Int),tP 5 0 0,tP 4 2 0,tP 3 1 0,tP 2 0 0] b2)=>?_
 refine Dr [6,7,8,9] [9,8,7,6,4,3,2,1,0] [tI 14 ((r_.buses.length:Nat):Int),tP 11 0 4,tS 9 (some ⟨a,0,none⟩) x9.length 4,tP 4 2 0,tP 3 1 0,tP 2 0 0] be q fun ci bf=>?_
 obtain⟨x15,ex15,H⟩:=A3 H
 obtain⟨bv,ap,au⟩:=HV ex15
 have a6:Af b ([d.turns.a0,d.turns.a1,d.turns.a2,d.turns.a3]:List Int) [.int .i64 d.turns.a0,.int .i64 d.turns.a1,.int .i64 d.turns.a2,.int .i64 d.turns.a3]:=⟨_,_,rfl,(Ac:rep b (d.turns.a0:Int) _),⟨_,_,rfl,(Ac:rep b (d.turns.a1:Int) _),⟨_,_,rfl,(Ac:rep b (d.turns.a2:Int) _),⟨_,_,rfl,(Ac:rep b (d.turns.a3:Int) _),rfl⟩⟩⟩⟩
 have ag:Ar b (some ⟨a,4,none⟩) 4 x15:=by rw [au]; exact Ar.ofBox 4 4 1 rfl a6 ac rfl rfl _
 have bs:(((r_.buses.length:Nat):Int):Int).toNat=x15.length:=by rw [au,List.length_take]; simp at ap ⊢; omega
 refine Kt (E:=3) 10 1 _ ⟨a,4,none⟩ (fun _ _ _ _ _ h=>h) bf rfl rfl (rfl) rfl (by decide) (by kernel_rfl) (by kernel_rfl) q.plOk (by rfl) (by rfl) (by kernel_rfl) (by kernel_rfl) bv ap rfl bs fun b3 (bg:Kn 24 [(a,0),(f,0),(g,0)] [tS 15 (some ⟨a,4,none⟩) x15.length 4,tI 14 ((r_.buses.length:Nat):Int),tP 11 0 4,tS 9 (some ⟨a,0,none⟩) x9.length 4,tP 4 2 0,tP 3 1 0,tP 2 0 0] b3)=>?_
 refine Dr [12,13,14,15] [15,14,13,12,10,9,8,7,6,4,3,2,1,0] [tI 20 ((r_.spares.length:Nat):Int),tP 17 0 8,tS 15 (some ⟨a,4,none⟩) x15.length 4,tS 9 (some ⟨a,0,none⟩) x9.length 4,tP 4 2 0] bg q fun cj bh=>?_
 obtain⟨x21,ex21,H⟩:=A3 H
 obtain⟨bw,aq,av⟩:=HV ex21
 have a7:Af b ([d.spares.a0,d.spares.a1]:List Bool) [.bool d.spares.a0,.bool d.spares.a1]:=⟨_,_,rfl,(AS:rep b (d.spares.a0:Bool) _),⟨_,_,rfl,(AS:rep b (d.spares.a1:Bool) _),rfl⟩⟩
 have ah:Ar b (some ⟨a,8,none⟩) 2 x21:=by rw [av]; exact Ar.ofBox 8 2 1 rfl a7 ac rfl rfl _
 have bt:(((r_.spares.length:Nat):Int):Int).toNat=x21.length:=by rw [av,List.length_take]; simp at aq ⊢; omega
 refine Kt (E:=4) 16 1 _ ⟨a,8,none⟩ (fun _ _ _ _ _ h=>h) bh rfl rfl (rfl) rfl (by decide) (by kernel_rfl) (by kernel_rfl) q.plOk (by rfl) (by rfl) (by kernel_rfl) (by kernel_rfl) bw aq rfl bt fun b4 (bi:Kn 24 [(a,0),(f,0),(g,0)] (NT a x21 r_ x15 x9) b4)=>?_
 obtain⟨x10,ex10,H⟩:=A3 H
 refine Dl 5 fun K hK=>?_
 refine wc [.c (.slice (some ⟨a,0,none⟩) x9.length 4)] bi q (Co n q.has x9 bx ex10) fun ck ca cp ax al ad=>?_
 replace ag:=ag.mono al
 obtain⟨s,u,rfl,ai⟩:=ax
 refine⟨.one (.c (.slice s x10.length u)),rfl,fun b5 (bj:Kn 24 [(a,0),(f,0),(g,0)] ((tS 10 s x10.length u)::(NT a x21 r_ x15 x9)) b5)=>hK _ _ ad.plOk ?_⟩
 obtain⟨x16,ex16,H⟩:=A3 H
 refine Dl 11 fun K hK=>?_
 refine wc [.c (.slice (some ⟨a,4,none⟩) x15.length 4)] bj ad (Co n ad.has x15 ag ex16) fun cl cb cq ay am ae=>?_
 replace ah:=ah.mono (QU al am)
 obtain⟨x,y,rfl,aj⟩:=ay
 refine⟨.one (.c (.slice x x16.length y)),rfl,fun b6 (bk:Kn 24 [(a,0),(f,0),(g,0)] ((tS 16 x x16.length y)::(tS 10 s x10.length u)::(NT a x21 r_ x15 x9)) b6)=>hK _ _ ae.plOk ?_⟩
 obtain⟨x22,ex22,H⟩:=A3 H
 refine Dl 17 fun K hK=>?_
 refine wc [.c (.slice (some ⟨a,8,none⟩) x21.length 2)] bk ae (F4 n ae.has x21 ah ex22) fun cm a4 cr az an af=>?_
 replace ai:=ai.mono (QU am an)
 replace aj:=aj.mono an
 obtain⟨z,aa,rfl,bz⟩:=az
 refine⟨.one (.c (.slice z x22.length aa)),rfl,fun b7 (bl:Kn 24 [(a,0),(f,0),(g,0)] ((tS 22 z x22.length aa)::(tS 16 x x16.length y)::(tS 10 s x10.length u)::(NT a x21 r_ x15 x9)) b7)=>hK _ _ af.plOk ?_⟩
 refine Dr [18] [18,17,11,5,16,15,14,13,12,10,9,8,7,6,4,3,2,1,0] [tA 23 [.slice s x10.length u,.slice x x16.length y,.slice z x22.length aa],tP 4 2 0] bl af fun b8 bm=>?_
 refine DG 19 rfl (by kernel_rfl) (by decide) (rfl) (by kernel_rfl) fun K hK=>?_
 refine Ea 2 0 (.agg [.slice s x10.length u,.slice x x16.length y,.slice z x22.length aa]) [.slice s x10.length u,.slice x x16.length y,.slice z x22.length aa] bm af fun ct bn bq=>hK _ _ ?_
 have a8:Kn 24 [(a,0),(f,0),(g,0)] [tP 4 2 0] b8:=bn.kp
 refine FA (by kernel_rfl) (wp_ret ?_)
 obtain rfl:=QZ H
 exact rt (.one (.agg [.slice s x10.length u,.slice x x16.length y,.slice z x22.length aa])) a8 bq ⟨_,rfl,((Aa (Ae ai) (Aa (Ae aj) (Ae bz))):rep a4 ((A0.mk x10 x16 x22):A0) _)⟩
end Go.Proofs.Ytokchpjijlebiaa
