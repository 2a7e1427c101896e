/- Each call computes its plain function. -/
import Derived.Test.YtokchpjijlebiaaProg
import Derived.Test.YtokchpjijlebiaaLQP0
import Derived.Test.YtokchpjijlebiaaLQWR
set_option linter.all false
namespace Go.Proofs.Ytokchpjijlebiaa
open Go Go.RowKit
open Rep (rep)
open KRep (kv)
open VRep (rv)
abbrev Sv:List SC:=[.slice none 0 0,.slice none 0 0,.slice none 0 0]
abbrev M1 (j:Option Addr) (r_:Af) (m:Nat) (k:Option Addr) (o:Nat) (l:Option Addr) (p:Nat):List SC:=[.slice j r_.legs.length m,.int .i64 r_.turn.lo,.int .i64 r_.turn.hi,.slice k r_.buses.length o,.slice l r_.spares.length p,.int .i64 r_.unit,.int .i64 r_.gap,.int .i64 r_.fr,.int .i64 r_.to_]
abbrev Li (d:An):List SC:=[.int .i64 d.holds.a0,.int .i64 d.holds.a1,.int .i64 d.holds.a2,.int .i64 d.holds.a3,.int .i64 d.turns.a0,.int .i64 d.turns.a1,.int .i64 d.turns.a2,.int .i64 d.turns.a3,.bool d.spares.a0,.bool d.spares.a1]
abbrev Sw (a:Nat) (x21:List Bool) (r_:Af) (x15 x9:List Int):TM:=[tS 21 (some ⟨a,8,none⟩) x21.length 2,tI 20 ((r_.spares.length:Nat):Int),tP 17 0 8,tS 15 (some ⟨a,4,none⟩) x15.length 4,tS 9 (some ⟨a,0,none⟩) x9.length 4,tP 4 2 0]
set_option maxRecDepth 100000 in
set_option maxHeartbeats 4000000 in
theorem CV (n:Nat) {h:Ad} {w:World} (hh:Dk h w) (d:An) {cs_d:List Value} (hx_d:rep h d cs_d) (r_:Af) {cs_r_:List Value} (hx_r_:rep h r_ cs_r_) {r:As} (H:BU n d r_=some r) :
  Calls Try.prog 54 #[.agg cs_d.toArray,.agg cs_r_.toArray] w (Dq (fun h v=>∃ cs,v=.agg cs.toArray∧rep h r cs) h w):=by
 obtain⟨_,_,rfl,⟨_,_,rfl,rfl,⟨_,_,rfl,rfl,⟨_,_,rfl,rfl,rfl⟩⟩⟩,⟨_,_,rfl,⟨_,_,rfl,rfl,⟨_,_,rfl,rfl,⟨_,_,rfl,rfl,rfl⟩⟩⟩,⟨_,_,rfl,rfl,rfl⟩⟩⟩:=hx_d
 obtain⟨_,_,rfl,⟨j,m,rfl,ce⟩,⟨_,_,rfl,⟨_,_,rfl,rfl,rfl⟩,⟨_,_,rfl,⟨k,o,rfl,cf⟩,⟨_,_,rfl,⟨l,p,rfl,cg⟩,⟨_,_,rfl,rfl,⟨_,_,rfl,rfl,⟨_,_,rfl,rfl,rfl⟩⟩⟩⟩⟩⟩⟩:=hx_r_
 refine enter 24 [.agg (Li d),.agg (M1 j r_ m k o l p)] Try.func54 rfl rfl rfl rfl fun t hk=>?_
 have hm:=Ah.begin h w hh
 unfold BU at H
 refine XT (Aa (wl fun K hK=>?_))
 refine wb (.agg (Li d)) hk hm fun a b0 cn (a9:Kn 24 [(a,0)] [tP 2 0 0,tA 0 (Li d),tA 1 (M1 j r_ m k o l p)] b0) bo=>hK _ _ ?_
 refine wl fun K hK=>?_
 refine wb (.agg (M1 j r_ m k o l p)) a9 bo fun f b1 co (ba:Kn 24 [(a,0),(f,0)] [tP 3 1 0,tP 2 0 0,tA 0 (Li d),tA 1 (M1 j r_ m k o l p)] b1) bp=>hK _ _ ?_
 refine wl fun K hK=>?_
 refine wa Sv ba bp fun g aw b9 (bb:Kn 24 [(a,0),(f,0),(g,0)] [tP 4 2 0,tP 3 1 0,tP 2 0 0,tA 0 (Li d),tA 1 (M1 j r_ m k o l p)] aw) ab=>hK _ _ ?_
 have bc:Kn 24 [(a,0),(f,0),(g,0)] [tP 4 2 0,tP 3 1 0,tP 2 0 0] aw:=bb.kp
 refine wf (XT (Al (by kernel_rfl) ?_))
 replace ab:=ab.drew
 refine Am [] [(a,0),(f,0),(g,0)] [⟨Li d,some 102⟩,⟨M1 j r_ m k o l p,some 43⟩,⟨Sv,some 34⟩] ?_
 refine Dr [0,1,2,3] (dn 3) [tI 8 ((r_.buses.length:Nat):Int),tP 5 0 0,tP 4 2 0,tP 3 1 0,tP 2 0 0] bc ab fun ch bd=>?_
 obtain⟨b,cd,ak,q⟩:=ab.settlePlc (i:=0) rfl
 replace q:Ah ⟨w,h,A5⟩ b [(a,0),(f,0),(g,0)] [⟨Li d,none⟩,⟨M1 j r_ m k o l p,some 43⟩,⟨Sv,some 34⟩] [] (World.drew b9):=q
 have cc:CJ b a (d:An):=CJ.of (e:=[(a,0),(f,0),(g,0)]) (cs:=(Li d)) ((Ab (Ab Ac (Ab Ac (Ab Ac Ac))) (Ab (Ab Ac (Ab Ac (Ab Ac Ac))) (Ab Bq Bq))):rep b (d:An) _) rfl ak
 have ac:AD b a [.int .i64 d.holds.a0,.int .i64 d.holds.a1,.int .i64 d.holds.a2,.int .i64 d.holds.a3,.int .i64 d.turns.a0,.int .i64 d.turns.a1,.int .i64 d.turns.a2,.int .i64 d.turns.a3,.bool d.spares.a0,.bool d.spares.a1]:=AD.of (e:=[(a,0),(f,0),(g,0)]) (cs:=[.int .i64 d.holds.a0,.int .i64 d.holds.a1,.int .i64 d.holds.a2,.int .i64 d.holds.a3,.int .i64 d.turns.a0,.int .i64 d.turns.a1,.int .i64 d.turns.a2,.int .i64 d.turns.a3,.bool d.spares.a0,.bool d.spares.a1]) rfl ak
 refine IV (e':=[(a,0),(f,0),(g,0)]) (pl':=[⟨Li d,none⟩,⟨M1 j r_ m k o l p,some 43⟩,⟨Sv,some 34⟩]) (fun _ hp=>A6.same hp rfl) ?_
 obtain⟨x9,ex9,H⟩:=Ao H
 obtain⟨bu,ao,ar⟩:=Ki ex9
 have a5:Ag b ([d.holds.a0,d.holds.a1,d.holds.a2,d.holds.a3]:List Int) [.int .i64 d.holds.a0,.int .i64 d.holds.a1,.int .i64 d.holds.a2,.int .i64 d.holds.a3]:=⟨_,_,rfl,(Ac:rep b (d.holds.a0:Int) _),⟨_,_,rfl,(Ac:rep b (d.holds.a1:Int) _),⟨_,_,rfl,(Ac:rep b (d.holds.a2:Int) _),⟨_,_,rfl,(Ac:rep b (d.holds.a3:Int) _),rfl⟩⟩⟩⟩
 have bx:A0 b (some ⟨a,0,none⟩) 4 x9:=by rw [ar]; exact A0.ofBox 0 4 1 rfl a5 ac rfl rfl _
 have br:(((r_.buses.length:Nat):Int):Int).toNat=x9.length:=by rw [ar,List.length_take]; simp at ao ⊢; omega
 refine N7 (E:=3) 4 1 _ ⟨a,0,none⟩ (fun _ _ _ _ _ h=>h) bd rfl rfl (rfl) rfl (by decide) (by kernel_rfl) (by kernel_rfl) q.plOk (by rfl) (by rfl) (by kernel_rfl) (by kernel_rfl) bu ao rfl br fun b2 (be:Kn 24 [(a,0),(f,0),(g,0)] [tS 9 (some ⟨a,0,none⟩) x9.length 4,tI 8 ((r_.buses.length:Nat):Int),tP 5 0 0,tP 4 2 0,tP 3 1 0,tP 2 0 0] b2)=>?_
 refine Dr [6,7,8,9] [9,8,7,6,4,3,2,1,0] [tI 14 ((r_.buses.length:Nat):Int),tP 11 0 4,tS 9 (some ⟨a,0,none⟩) x9.length 4,tP 4 2 0,tP 3 1 0,tP 2 0 0] be q fun ci bf=>?_
 obtain⟨x15,ex15,H⟩:=Ao H
 obtain⟨bv,ap,au⟩:=Ki ex15
 have a6:Ag b ([d.turns.a0,d.turns.a1,d.turns.a2,d.turns.a3]:List Int) [.int .i64 d.turns.a0,.int .i64 d.turns.a1,.int .i64 d.turns.a2,.int .i64 d.turns.a3]:=⟨_,_,rfl,(Ac:rep b (d.turns.a0:Int) _),⟨_,_,rfl,(Ac:rep b (d.turns.a1:Int) _),⟨_,_,rfl,(Ac:rep b (d.turns.a2:Int) _),⟨_,_,rfl,(Ac:rep b (d.turns.a3:Int) _),rfl⟩⟩⟩⟩
 have ag:A0 b (some ⟨a,4,none⟩) 4 x15:=by rw [au]; exact A0.ofBox 4 4 1 rfl a6 ac rfl rfl _
 have bs:(((r_.buses.length:Nat):Int):Int).toNat=x15.length:=by rw [au,List.length_take]; simp at ap ⊢; omega
 refine N7 (E:=3) 10 1 _ ⟨a,4,none⟩ (fun _ _ _ _ _ h=>h) bf rfl rfl (rfl) rfl (by decide) (by kernel_rfl) (by kernel_rfl) q.plOk (by rfl) (by rfl) (by kernel_rfl) (by kernel_rfl) bv ap rfl bs fun b3 (bg:Kn 24 [(a,0),(f,0),(g,0)] [tS 15 (some ⟨a,4,none⟩) x15.length 4,tI 14 ((r_.buses.length:Nat):Int),tP 11 0 4,tS 9 (some ⟨a,0,none⟩) x9.length 4,tP 4 2 0,tP 3 1 0,tP 2 0 0] b3)=>?_
 refine Dr [12,13,14,15] [15,14,13,12,10,9,8,7,6,4,3,2,1,0] [tI 20 ((r_.spares.length:Nat):Int),tP 17 0 8,tS 15 (some ⟨a,4,none⟩) x15.length 4,tS 9 (some ⟨a,0,none⟩) x9.length 4,tP 4 2 0] bg q fun cj bh=>?_
 obtain⟨x21,ex21,H⟩:=Ao H
 obtain⟨bw,aq,av⟩:=Ki ex21
 have a7:Ag b ([d.spares.a0,d.spares.a1]:List Bool) [.bool d.spares.a0,.bool d.spares.a1]:=⟨_,_,rfl,(Bq:rep b (d.spares.a0:Bool) _),⟨_,_,rfl,(Bq:rep b (d.spares.a1:Bool) _),rfl⟩⟩
 have ah:A0 b (some ⟨a,8,none⟩) 2 x21:=by rw [av]; exact A0.ofBox 8 2 1 rfl a7 ac rfl rfl _
 have bt:(((r_.spares.length:Nat):Int):Int).toNat=x21.length:=by rw [av,List.length_take]; simp at aq ⊢; omega
 refine N7 (E:=4) 16 1 _ ⟨a,8,none⟩ (fun _ _ _ _ _ h=>h) bh rfl rfl (rfl) rfl (by decide) (by kernel_rfl) (by kernel_rfl) q.plOk (by rfl) (by rfl) (by kernel_rfl) (by kernel_rfl) bw aq rfl bt fun b4 (bi:Kn 24 [(a,0),(f,0),(g,0)] (Sw a x21 r_ x15 x9) b4)=>?_
 obtain⟨x10,ex10,H⟩:=Ao H
 refine Dl 5 fun K hK=>?_
 refine wc [.c (.slice (some ⟨a,0,none⟩) x9.length 4)] bi q (CC n q.has x9 bx ex10) fun ck ca cp ax al ad=>?_
 replace ag:=ag.mono al
 obtain⟨s,u,rfl,ai⟩:=ax
 refine⟨.one (.c (.slice s x10.length u)),rfl,fun b5 (bj:Kn 24 [(a,0),(f,0),(g,0)] ((tS 10 s x10.length u)::(Sw a x21 r_ x15 x9)) b5)=>hK _ _ ad.plOk ?_⟩
 obtain⟨x16,ex16,H⟩:=Ao H
 refine Dl 11 fun K hK=>?_
 refine wc [.c (.slice (some ⟨a,4,none⟩) x15.length 4)] bj ad (CC n ad.has x15 ag ex16) fun cl cb cq ay am ae=>?_
 replace ah:=ah.mono (XU al am)
 obtain⟨x,y,rfl,aj⟩:=ay
 refine⟨.one (.c (.slice x x16.length y)),rfl,fun b6 (bk:Kn 24 [(a,0),(f,0),(g,0)] ((tS 16 x x16.length y)::(tS 10 s x10.length u)::(Sw a x21 r_ x15 x9)) b6)=>hK _ _ ae.plOk ?_⟩
 obtain⟨x22,ex22,H⟩:=Ao H
 refine Dl 17 fun K hK=>?_
 refine wc [.c (.slice (some ⟨a,8,none⟩) x21.length 2)] bk ae (GM n ae.has x21 ah ex22) fun cm a4 cr az an af=>?_
 replace ai:=ai.mono (XU am an)
 replace aj:=aj.mono an
 obtain⟨z,aa,rfl,bz⟩:=az
 refine⟨.one (.c (.slice z x22.length aa)),rfl,fun b7 (bl:Kn 24 [(a,0),(f,0),(g,0)] ((tS 22 z x22.length aa)::(tS 16 x x16.length y)::(tS 10 s x10.length u)::(Sw a x21 r_ x15 x9)) b7)=>hK _ _ af.plOk ?_⟩
 refine Dr [18] [18,17,11,5,16,15,14,13,12,10,9,8,7,6,4,3,2,1,0] [tA 23 [.slice s x10.length u,.slice x x16.length y,.slice z x22.length aa],tP 4 2 0] bl af fun b8 bm=>?_
 refine Cx 19 rfl (by kernel_rfl) (by decide) (rfl) (by kernel_rfl) fun K hK=>?_
 refine EA 2 0 (.agg [.slice s x10.length u,.slice x x16.length y,.slice z x22.length aa]) [.slice s x10.length u,.slice x x16.length y,.slice z x22.length aa] bm af fun ct bn bq=>hK _ _ ?_
 have a8:Kn 24 [(a,0),(f,0),(g,0)] [tP 4 2 0] b8:=bn.kp
 refine EH (by kernel_rfl) (wp_ret ?_)
 obtain rfl:=XZ H
 exact rt (.one (.agg [.slice s x10.length u,.slice x x16.length y,.slice z x22.length aa])) a8 bq ⟨_,rfl,((Ab (Ae ai) (Ab (Ae aj) (Ae bz))):rep a4 ((As.mk x10 x16 x22):As) _)⟩
end Go.Proofs.Ytokchpjijlebiaa
