/- Each call computes its plain function. -/
import Derived.Test.YtokchpjijlebiaaGreatProg
import Derived.Test.YtokchpjijlebiaaGreatSQP0
import Derived.Test.YtokchpjijlebiaaGreatSQWR
set_option linter.all false
namespace Go.Proofs.YtokchpjijlebiaaGreat
open Go Go.RowKit
open Rep (rep)
open KRep (kv)
open VRep (rv)
abbrev Qk:List SC:=[.slice none 0 0,.slice none 0 0,.slice none 0 0]
abbrev La (j:Option Addr) (r_:Af) (m:Nat) (k:Option Addr) (o:Nat) (l:Option Addr) (p:Nat):List SC:=[.slice j r_.legs.length m,.int .i64 r_.turn.lo,.int .i64 r_.turn.hi,.slice k r_.buses.length o,.slice l r_.spares.length p,.int .i64 r_.unit,.int .i64 r_.gap,.int .i64 r_.fr,.int .i64 r_.to_]
abbrev JT (d:Au):List SC:=[.int .i64 d.holds.a0,.int .i64 d.holds.a1,.int .i64 d.holds.a2,.int .i64 d.holds.a3,.int .i64 d.turns.a0,.int .i64 d.turns.a1,.int .i64 d.turns.a2,.int .i64 d.turns.a3,.bool d.spares.a0,.bool d.spares.a1]
abbrev Ql (a:Nat) (x21:List Bool) (r_:Af) (x15 x9:List Int):TM:=[tS 21 (some ⟨a,8,none⟩) x21.length 2,tI 20 ((r_.spares.length:Nat):Int),tP 17 0 8,tS 15 (some ⟨a,4,none⟩) x15.length 4,tS 9 (some ⟨a,0,none⟩) x9.length 4,tP 4 2 0]
set_option maxRecDepth 100000 in
set_option maxHeartbeats 4000000 in
theorem C6 (n:Nat) {h:Ae} {w:World} (hh:CG h w) (d:Au) {cs_d:List Value} (hx_d:rep h d cs_d) (r_:Af) {cs_r_:List Value} (hx_r_:rep h r_ cs_r_) {r:Av} (H:Cw n d r_=some r) :
  Calls Tryz.prog 50 #[.agg cs_d.toArray,.agg cs_r_.toArray] w (CH (fun h v=>∃ cs,v=.agg cs.toArray∧rep h r cs) h w):=by
 obtain⟨_,_,rfl,⟨_,_,rfl,rfl,⟨_,_,rfl,rfl,⟨_,_,rfl,rfl,rfl⟩⟩⟩,⟨_,_,rfl,⟨_,_,rfl,rfl,⟨_,_,rfl,rfl,⟨_,_,rfl,rfl,rfl⟩⟩⟩,⟨_,_,rfl,rfl,rfl⟩⟩⟩:=hx_d
 obtain⟨_,_,rfl,⟨j,m,rfl,ce⟩,⟨_,_,rfl,⟨_,_,rfl,rfl,rfl⟩,⟨_,_,rfl,⟨k,o,rfl,cf⟩,⟨_,_,rfl,⟨l,p,rfl,cg⟩,⟨_,_,rfl,rfl,⟨_,_,rfl,rfl,⟨_,_,rfl,rfl,rfl⟩⟩⟩⟩⟩⟩⟩:=hx_r_
 refine enter 24 [.agg (JT d),.agg (La j r_ m k o l p)] Tryz.func50 rfl rfl rfl rfl fun t hk=>?_
 have hm:=Ah.begin h w hh
 unfold Cw at H
 refine XT (Aa (wl fun K hK=>?_))
 refine wb (.agg (JT d)) hk hm fun a b0 cn (a9:Kn 24 [(a,0)] [tP 2 0 0,tA 0 (JT d),tA 1 (La j r_ m k o l p)] b0) bo=>hK _ _ ?_
 refine wl fun K hK=>?_
 refine wb (.agg (La j r_ m k o l p)) a9 bo fun f b1 co (ba:Kn 24 [(a,0),(f,0)] [tP 3 1 0,tP 2 0 0,tA 0 (JT d),tA 1 (La j r_ m k o l p)] b1) bp=>hK _ _ ?_
 refine wl fun K hK=>?_
 refine wa Qk ba bp fun g aw b9 (bb:Kn 24 [(a,0),(f,0),(g,0)] [tP 4 2 0,tP 3 1 0,tP 2 0 0,tA 0 (JT d),tA 1 (La j r_ m k o l p)] aw) ab=>hK _ _ ?_
 have bc:Kn 24 [(a,0),(f,0),(g,0)] [tP 4 2 0,tP 3 1 0,tP 2 0 0] aw:=bb.kp
 refine wf (XT (Al (by kernel_rfl) ?_))
 replace ab:=ab.drew
 refine Aq [] [(a,0),(f,0),(g,0)] [⟨JT d,some 105⟩,⟨La j r_ m k o l p,some 48⟩,⟨Qk,some 50⟩] ?_
 refine Dr [0,1,2,3] (dn 3) [tI 8 ((r_.buses.length:Nat):Int),tP 5 0 0,tP 4 2 0,tP 3 1 0,tP 2 0 0] bc ab fun ch bd=>?_
 obtain⟨b,cd,ak,q⟩:=ab.settlePlc (i:=0) rfl
 replace q:Ah ⟨w,h,AB⟩ b [(a,0),(f,0),(g,0)] [⟨JT d,none⟩,⟨La j r_ m k o l p,some 48⟩,⟨Qk,some 50⟩] [] (World.drew b9):=q
 have cc:Cr b a (d:Au):=Cr.of (e:=[(a,0),(f,0),(g,0)]) (cs:=(JT d)) ((Ab (Ab Ac (Ab Ac (Ab Ac Ac))) (Ab (Ab Ac (Ab Ac (Ab Ac Ac))) (Ab Bh Bh))):rep b (d:Au) _) rfl ak
 have ac:A7 b a [.int .i64 d.holds.a0,.int .i64 d.holds.a1,.int .i64 d.holds.a2,.int .i64 d.holds.a3,.int .i64 d.turns.a0,.int .i64 d.turns.a1,.int .i64 d.turns.a2,.int .i64 d.turns.a3,.bool d.spares.a0,.bool d.spares.a1]:=A7.of (e:=[(a,0),(f,0),(g,0)]) (cs:=[.int .i64 d.holds.a0,.int .i64 d.holds.a1,.int .i64 d.holds.a2,.int .i64 d.holds.a3,.int .i64 d.turns.a0,.int .i64 d.turns.a1,.int .i64 d.turns.a2,.int .i64 d.turns.a3,.bool d.spares.a0,.bool d.spares.a1]) rfl ak
 refine HT (e':=[(a,0),(f,0),(g,0)]) (pl':=[⟨JT d,none⟩,⟨La j r_ m k o l p,some 48⟩,⟨Qk,some 50⟩]) (fun _ hp=>Be.same hp rfl) ?_
 obtain⟨x9,ex9,H⟩:=Ap H
 obtain⟨bu,ao,ar⟩:=Jd ex9
 have a5:Ag b ([d.holds.a0,d.holds.a1,d.holds.a2,d.holds.a3]:List Int) [.int .i64 d.holds.a0,.int .i64 d.holds.a1,.int .i64 d.holds.a2,.int .i64 d.holds.a3]:=⟨_,_,rfl,(Ac:rep b (d.holds.a0:Int) _),⟨_,_,rfl,(Ac:rep b (d.holds.a1:Int) _),⟨_,_,rfl,(Ac:rep b (d.holds.a2:Int) _),⟨_,_,rfl,(Ac:rep b (d.holds.a3:Int) _),rfl⟩⟩⟩⟩
 have bx:Az b (some ⟨a,0,none⟩) 4 x9:=by rw [ar]; exact Az.ofBox 0 4 1 rfl a5 ac rfl rfl _
 have br:(((r_.buses.length:Nat):Int):Int).toNat=x9.length:=by rw [ar,List.length_take]; simp at ao ⊢; omega
 refine LX (E:=3) 4 1 _ ⟨a,0,none⟩ (fun _ _ _ _ _ h=>h) bd rfl rfl (rfl) rfl (by decide) (by kernel_rfl) (by kernel_rfl) q.plOk (by rfl) (by rfl) (by kernel_rfl) (by kernel_rfl) bu ao rfl br fun b2 (be:Kn 24 [(a,0),(f,0),(g,0)] [tS 9 (some ⟨a,0,none⟩) x9.length 4,tI 8 ((r_.buses.length:Nat):Int),tP 5 0 0,tP 4 2 0,tP 3 1 0,tP 2 0 0] b2)=>?_
 refine Dr [6,7,8,9] [9,8,7,6,4,3,2,1,0] [tI 14 ((r_.buses.length:Nat):Int),tP 11 0 4,tS 9 (some ⟨a,0,none⟩) x9.length 4,tP 4 2 0,tP 3 1 0,tP 2 0 0] be q fun ci bf=>?_
 obtain⟨x15,ex15,H⟩:=Ap H
 obtain⟨bv,ap,au⟩:=Jd ex15
 have a6:Ag b ([d.turns.a0,d.turns.a1,d.turns.a2,d.turns.a3]:List Int) [.int .i64 d.turns.a0,.int .i64 d.turns.a1,.int .i64 d.turns.a2,.int .i64 d.turns.a3]:=⟨_,_,rfl,(Ac:rep b (d.turns.a0:Int) _),⟨_,_,rfl,(Ac:rep b (d.turns.a1:Int) _),⟨_,_,rfl,(Ac:rep b (d.turns.a2:Int) _),⟨_,_,rfl,(Ac:rep b (d.turns.a3:Int) _),rfl⟩⟩⟩⟩
 have ag:Az b (some ⟨a,4,none⟩) 4 x15:=by rw [au]; exact Az.ofBox 4 4 1 rfl a6 ac rfl rfl _
 have bs:(((r_.buses.length:Nat):Int):Int).toNat=x15.length:=by rw [au,List.length_take]; simp at ap ⊢; omega
 refine LX (E:=3) 10 1 _ ⟨a,4,none⟩ (fun _ _ _ _ _ h=>h) bf rfl rfl (rfl) rfl (by decide) (by kernel_rfl) (by kernel_rfl) q.plOk (by rfl) (by rfl) (by kernel_rfl) (by kernel_rfl) bv ap rfl bs fun b3 (bg:Kn 24 [(a,0),(f,0),(g,0)] [tS 15 (some ⟨a,4,none⟩) x15.length 4,tI 14 ((r_.buses.length:Nat):Int),tP 11 0 4,tS 9 (some ⟨a,0,none⟩) x9.length 4,tP 4 2 0,tP 3 1 0,tP 2 0 0] b3)=>?_
 refine Dr [12,13,14,15] [15,14,13,12,10,9,8,7,6,4,3,2,1,0] [tI 20 ((r_.spares.length:Nat):Int),tP 17 0 8,tS 15 (some ⟨a,4,none⟩) x15.length 4,tS 9 (some ⟨a,0,none⟩) x9.length 4,tP 4 2 0] bg q fun cj bh=>?_
 obtain⟨x21,ex21,H⟩:=Ap H
 obtain⟨bw,aq,av⟩:=Jd ex21
 have a7:Ag b ([d.spares.a0,d.spares.a1]:List Bool) [.bool d.spares.a0,.bool d.spares.a1]:=⟨_,_,rfl,(Bh:rep b (d.spares.a0:Bool) _),⟨_,_,rfl,(Bh:rep b (d.spares.a1:Bool) _),rfl⟩⟩
 have ah:Az b (some ⟨a,8,none⟩) 2 x21:=by rw [av]; exact Az.ofBox 8 2 1 rfl a7 ac rfl rfl _
 have bt:(((r_.spares.length:Nat):Int):Int).toNat=x21.length:=by rw [av,List.length_take]; simp at aq ⊢; omega
 refine LX (E:=4) 16 1 _ ⟨a,8,none⟩ (fun _ _ _ _ _ h=>h) bh rfl rfl (rfl) rfl (by decide) (by kernel_rfl) (by kernel_rfl) q.plOk (by rfl) (by rfl) (by kernel_rfl) (by kernel_rfl) bw aq rfl bt fun b4 (bi:Kn 24 [(a,0),(f,0),(g,0)] (Ql a x21 r_ x15 x9) b4)=>?_
 obtain⟨x10,ex10,H⟩:=Ap H
 refine Dl 5 fun K hK=>?_
 refine wc [.c (.slice (some ⟨a,0,none⟩) x9.length 4)] bi q (Cj n q.has x9 bx ex10) fun ck ca cp ax al ad=>?_
 replace ag:=ag.mono al
 obtain⟨s,u,rfl,ai⟩:=ax
 refine⟨.one (.c (.slice s x10.length u)),rfl,fun b5 (bj:Kn 24 [(a,0),(f,0),(g,0)] ((tS 10 s x10.length u)::(Ql a x21 r_ x15 x9)) b5)=>hK _ _ ad.plOk ?_⟩
 obtain⟨x16,ex16,H⟩:=Ap H
 refine Dl 11 fun K hK=>?_
 refine wc [.c (.slice (some ⟨a,4,none⟩) x15.length 4)] bj ad (Cj n ad.has x15 ag ex16) fun cl cb cq ay am ae=>?_
 replace ah:=ah.mono (XU al am)
 obtain⟨x,y,rfl,aj⟩:=ay
 refine⟨.one (.c (.slice x x16.length y)),rfl,fun b6 (bk:Kn 24 [(a,0),(f,0),(g,0)] ((tS 16 x x16.length y)::(tS 10 s x10.length u)::(Ql a x21 r_ x15 x9)) b6)=>hK _ _ ae.plOk ?_⟩
 obtain⟨x22,ex22,H⟩:=Ap H
 refine Dl 17 fun K hK=>?_
 refine wc [.c (.slice (some ⟨a,8,none⟩) x21.length 2)] bk ae (Gi n ae.has x21 ah ex22) fun cm a4 cr az an af=>?_
 replace ai:=ai.mono (XU am an)
 replace aj:=aj.mono an
 obtain⟨z,aa,rfl,bz⟩:=az
 refine⟨.one (.c (.slice z x22.length aa)),rfl,fun b7 (bl:Kn 24 [(a,0),(f,0),(g,0)] ((tS 22 z x22.length aa)::(tS 16 x x16.length y)::(tS 10 s x10.length u)::(Ql a x21 r_ x15 x9)) b7)=>hK _ _ af.plOk ?_⟩
 refine Dr [18] [18,17,11,5,16,15,14,13,12,10,9,8,7,6,4,3,2,1,0] [tA 23 [.slice s x10.length u,.slice x x16.length y,.slice z x22.length aa],tP 4 2 0] bl af fun b8 bm=>?_
 refine C7 19 rfl (by kernel_rfl) (by decide) (rfl) (by kernel_rfl) fun K hK=>?_
 refine E3 2 0 (.agg [.slice s x10.length u,.slice x x16.length y,.slice z x22.length aa]) [.slice s x10.length u,.slice x x16.length y,.slice z x22.length aa] bm af fun ct bn bq=>hK _ _ ?_
 have a8:Kn 24 [(a,0),(f,0),(g,0)] [tP 4 2 0] b8:=bn.kp
 refine E9 (by kernel_rfl) (wp_ret ?_)
 obtain rfl:=XZ H
 exact rt (.one (.agg [.slice s x10.length u,.slice x x16.length y,.slice z x22.length aa])) a8 bq ⟨_,rfl,((Ab (Ad ai) (Ab (Ad aj) (Ad bz))):rep a4 ((Av.mk x10 x16 x22):Av) _)⟩
end Go.Proofs.YtokchpjijlebiaaGreat
