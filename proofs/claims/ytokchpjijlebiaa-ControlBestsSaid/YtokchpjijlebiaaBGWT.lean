/- Each call computes its plain function. -/
import Derived.Test.YtokchpjijlebiaaProg
import Derived.Test.YtokchpjijlebiaaBGP0
import Derived.Test.YtokchpjijlebiaaBGWR
set_option linter.all false
namespace Go.Proofs.Ytokchpjijlebiaa
open Go Go.RowKit
open Rep (rep)
open KRep (kv)
open VRep (rv)
abbrev Rs:List SC:=[.slice none 0 0,.slice none 0 0,.slice none 0 0]
abbrev JP (j:Option Addr) (r_:Af) (m:Nat) (k:Option Addr) (o:Nat) (l:Option Addr) (p:Nat):List SC:=[.slice j r_.legs.length m,.int .i64 r_.turn.lo,.int .i64 r_.turn.hi,.slice k r_.buses.length o,.slice l r_.spares.length p,.int .i64 r_.unit,.int .i64 r_.gap,.int .i64 r_.fr,.int .i64 r_.to_]
abbrev HZ (d:Ap):List SC:=[.int .i64 d.holds.a0,.int .i64 d.holds.a1,.int .i64 d.holds.a2,.int .i64 d.holds.a3,.int .i64 d.turns.a0,.int .i64 d.turns.a1,.int .i64 d.turns.a2,.int .i64 d.turns.a3,.bool d.spares.a0,.bool d.spares.a1]
abbrev SI (a:Nat) (x21:List Bool) (r_:Af) (x15 x9:List Int):TM:=[tS 21 (some ⟨a,8,none⟩) x21.length 2,tI 20 ((r_.spares.length:Nat):Int),tP 17 0 8,tS 15 (some ⟨a,4,none⟩) x15.length 4,tS 9 (some ⟨a,0,none⟩) x9.length 4,tP 4 2 0]
set_option maxRecDepth 100000 in
set_option maxHeartbeats 4000000 in
theorem CY (n:Nat) {h:Ae} {w:World} (hh:Dn h w) (d:Ap) {cs_d:List Value} (hx_d:rep h d cs_d) (r_:Af) {cs_r_:List Value} (hx_r_:rep h r_ cs_r_) {r:Am} (H:BT n d r_=some r) :
  Calls Try.prog 54 #[.agg cs_d.toArray,.agg cs_r_.toArray] w (Dp (fun h v=>∃ cs,v=.agg cs.toArray∧rep h r cs) h w):=by
 obtain⟨_,_,rfl,⟨_,_,rfl,rfl,⟨_,_,rfl,rfl,⟨_,_,rfl,rfl,rfl⟩⟩⟩,⟨_,_,rfl,⟨_,_,rfl,rfl,⟨_,_,rfl,rfl,⟨_,_,rfl,rfl,rfl⟩⟩⟩,⟨_,_,rfl,rfl,rfl⟩⟩⟩:=hx_d
 obtain⟨_,_,rfl,⟨j,m,rfl,ch⟩,⟨_,_,rfl,⟨_,_,rfl,rfl,rfl⟩,⟨_,_,rfl,⟨k,o,rfl,ci⟩,⟨_,_,rfl,⟨l,p,rfl,cj⟩,⟨_,_,rfl,rfl,⟨_,_,rfl,rfl,⟨_,_,rfl,rfl,rfl⟩⟩⟩⟩⟩⟩⟩:=hx_r_
 refine enter 24 [.agg (HZ d),.agg (JP j r_ m k o l p)] Try.func54 rfl rfl rfl rfl fun t hk=>?_
 have hm:=Ah.begin h w hh
 unfold BT at H
 refine XT (Aa (wl fun K hK=>?_))
 refine wb (.agg (HZ d)) hk hm fun a b1 ca (ba:Kn 24 [(a,0)] [tP 2 0 0,tA 0 (HZ d),tA 1 (JP j r_ m k o l p)] b1) (bp:Ah ⟨w,h,Aj⟩ h [(a,0)] [⟨HZ d,some 102⟩] [] ca)=>hK _ _ ?_
 refine wl fun K hK=>?_
 refine wb (.agg (JP j r_ m k o l p)) ba bp fun f b2 cb (bb:Kn 24 [(a,0),(f,0)] [tP 3 1 0,tP 2 0 0,tA 0 (HZ d),tA 1 (JP j r_ m k o l p)] b2) (bq:Ah ⟨w,h,Aj⟩ h [(a,0),(f,0)] [⟨HZ d,some 102⟩,⟨JP j r_ m k o l p,some 43⟩] [] cb)=>hK _ _ ?_
 refine wl fun K hK=>?_
 refine wa Rs bb bq fun g ax ay (bc:Kn 24 [(a,0),(f,0),(g,0)] [tP 4 2 0,tP 3 1 0,tP 2 0 0,tA 0 (HZ d),tA 1 (JP j r_ m k o l p)] ax) (ab:Ah ⟨w,h,Aj⟩ h [(a,0),(f,0),(g,0)] [⟨HZ d,some 102⟩,⟨JP j r_ m k o l p,some 43⟩,⟨Rs,some 34⟩] [] ay)=>hK _ _ ?_
 have bd:Kn 24 [(a,0),(f,0),(g,0)] [tP 4 2 0,tP 3 1 0,tP 2 0 0] ax:=bc.kp
 refine wf (XT (An (by kernel_rfl) ?_))
 replace ab:=ab.drew
 refine Ao [] [(a,0),(f,0),(g,0)] [⟨HZ d,some 102⟩,⟨JP j r_ m k o l p,some 43⟩,⟨Rs,some 34⟩] ?_
 refine Dr [0,1,2,3] (dn 3) [tI 8 ((r_.buses.length:Nat):Int),tP 5 0 0,tP 4 2 0,tP 3 1 0,tP 2 0 0] bd ab fun ck be=>?_
 obtain⟨b,cg,al,u⟩:=ab.settlePlc (i:=0) rfl
 replace u:Ah ⟨w,h,Aj⟩ b [(a,0),(f,0),(g,0)] [⟨HZ d,none⟩,⟨JP j r_ m k o l p,some 43⟩,⟨Rs,some 34⟩] [] (World.drew ay):=u
 have cf:CO b a (d:Ap):=CO.of (e:=[(a,0),(f,0),(g,0)]) (cs:=(HZ d)) ((Ab (Ab Ac (Ab Ac (Ab Ac Ac))) (Ab (Ab Ac (Ab Ac (Ab Ac Ac))) (Ab Bo Bo))):rep b (d:Ap) _) rfl al
 have ac:AD b a [.int .i64 d.holds.a0,.int .i64 d.holds.a1,.int .i64 d.holds.a2,.int .i64 d.holds.a3,.int .i64 d.turns.a0,.int .i64 d.turns.a1,.int .i64 d.turns.a2,.int .i64 d.turns.a3,.bool d.spares.a0,.bool d.spares.a1]:=AD.of (e:=[(a,0),(f,0),(g,0)]) (cs:=[.int .i64 d.holds.a0,.int .i64 d.holds.a1,.int .i64 d.holds.a2,.int .i64 d.holds.a3,.int .i64 d.turns.a0,.int .i64 d.turns.a1,.int .i64 d.turns.a2,.int .i64 d.turns.a3,.bool d.spares.a0,.bool d.spares.a1]) rfl al
 refine NS (e':=[(a,0),(f,0),(g,0)]) (pl':=[⟨HZ d,none⟩,⟨JP j r_ m k o l p,some 43⟩,⟨Rs,some 34⟩]) (fun _ hp=>AZ.same hp rfl) ?_
 obtain⟨x9,ex9,H⟩:=Aq H
 obtain⟨bv,ap,au⟩:=KN ex9
 have a6:Ag b ([d.holds.a0,d.holds.a1,d.holds.a2,d.holds.a3]:List Int) [.int .i64 d.holds.a0,.int .i64 d.holds.a1,.int .i64 d.holds.a2,.int .i64 d.holds.a3]:=⟨_,_,rfl,(Ac:rep b (d.holds.a0:Int) _),⟨_,_,rfl,(Ac:rep b (d.holds.a1:Int) _),⟨_,_,rfl,(Ac:rep b (d.holds.a2:Int) _),⟨_,_,rfl,(Ac:rep b (d.holds.a3:Int) _),rfl⟩⟩⟩⟩
 have bz:A6 b (some ⟨a,0,none⟩) 4 x9:=by rw [au]; exact A6.ofBox 0 4 1 rfl a6 ac rfl rfl _
 have bs:(((r_.buses.length:Nat):Int):Int).toNat=x9.length:=by rw [au,List.length_take]; simp at ap ⊢; omega
 refine NU (E:=3) 4 1 _ ⟨a,0,none⟩ (fun _ _ _ _ _ h=>h) be rfl rfl (rfl) rfl (by decide) (by kernel_rfl) (by kernel_rfl) u.plOk (by rfl) (by rfl) (by kernel_rfl) (by kernel_rfl) bv ap rfl bs fun b3 (bf:Kn 24 [(a,0),(f,0),(g,0)] [tS 9 (some ⟨a,0,none⟩) x9.length 4,tI 8 ((r_.buses.length:Nat):Int),tP 5 0 0,tP 4 2 0,tP 3 1 0,tP 2 0 0] b3)=>?_
 refine Dr [6,7,8,9] [9,8,7,6,4,3,2,1,0] [tI 14 ((r_.buses.length:Nat):Int),tP 11 0 4,tS 9 (some ⟨a,0,none⟩) x9.length 4,tP 4 2 0,tP 3 1 0,tP 2 0 0] bf u fun cl bg=>?_
 obtain⟨x15,ex15,H⟩:=Aq H
 obtain⟨bw,aq,av⟩:=KN ex15
 have a7:Ag b ([d.turns.a0,d.turns.a1,d.turns.a2,d.turns.a3]:List Int) [.int .i64 d.turns.a0,.int .i64 d.turns.a1,.int .i64 d.turns.a2,.int .i64 d.turns.a3]:=⟨_,_,rfl,(Ac:rep b (d.turns.a0:Int) _),⟨_,_,rfl,(Ac:rep b (d.turns.a1:Int) _),⟨_,_,rfl,(Ac:rep b (d.turns.a2:Int) _),⟨_,_,rfl,(Ac:rep b (d.turns.a3:Int) _),rfl⟩⟩⟩⟩
 have ag:A6 b (some ⟨a,4,none⟩) 4 x15:=by rw [av]; exact A6.ofBox 4 4 1 rfl a7 ac rfl rfl _
 have bt:(((r_.buses.length:Nat):Int):Int).toNat=x15.length:=by rw [av,List.length_take]; simp at aq ⊢; omega
 refine NU (E:=3) 10 1 _ ⟨a,4,none⟩ (fun _ _ _ _ _ h=>h) bg rfl rfl (rfl) rfl (by decide) (by kernel_rfl) (by kernel_rfl) u.plOk (by rfl) (by rfl) (by kernel_rfl) (by kernel_rfl) bw aq rfl bt fun b4 (bh:Kn 24 [(a,0),(f,0),(g,0)] [tS 15 (some ⟨a,4,none⟩) x15.length 4,tI 14 ((r_.buses.length:Nat):Int),tP 11 0 4,tS 9 (some ⟨a,0,none⟩) x9.length 4,tP 4 2 0,tP 3 1 0,tP 2 0 0] b4)=>?_
 refine Dr [12,13,14,15] [15,14,13,12,10,9,8,7,6,4,3,2,1,0] [tI 20 ((r_.spares.length:Nat):Int),tP 17 0 8,tS 15 (some ⟨a,4,none⟩) x15.length 4,tS 9 (some ⟨a,0,none⟩) x9.length 4,tP 4 2 0] bh u fun cm bi=>?_
 obtain⟨x21,ex21,H⟩:=Aq H
 obtain⟨bx,ar,aw⟩:=KN ex21
 have a8:Ag b ([d.spares.a0,d.spares.a1]:List Bool) [.bool d.spares.a0,.bool d.spares.a1]:=⟨_,_,rfl,(Bo:rep b (d.spares.a0:Bool) _),⟨_,_,rfl,(Bo:rep b (d.spares.a1:Bool) _),rfl⟩⟩
 have ah:A6 b (some ⟨a,8,none⟩) 2 x21:=by rw [aw]; exact A6.ofBox 8 2 1 rfl a8 ac rfl rfl _
 have bu:(((r_.spares.length:Nat):Int):Int).toNat=x21.length:=by rw [aw,List.length_take]; simp at ar ⊢; omega
 refine NU (E:=4) 16 1 _ ⟨a,8,none⟩ (fun _ _ _ _ _ h=>h) bi rfl rfl (rfl) rfl (by decide) (by kernel_rfl) (by kernel_rfl) u.plOk (by rfl) (by rfl) (by kernel_rfl) (by kernel_rfl) bx ar rfl bu fun b5 (bj:Kn 24 [(a,0),(f,0),(g,0)] (SI a x21 r_ x15 x9) b5)=>?_
 obtain⟨x10,ex10,H⟩:=Aq H
 refine Dl 5 fun K hK=>?_
 refine wc [.c (.slice (some ⟨a,0,none⟩) x9.length 4)] bj u (C7 n u.has x9 bz ex10) fun cn cd cq az am ad=>?_
 replace ag:=ag.mono am
 obtain⟨q,s,rfl,ai⟩:=az
 refine⟨.one (.c (.slice q x10.length s)),rfl,fun b6 (bk:Kn 24 [(a,0),(f,0),(g,0)] ((tS 10 q x10.length s)::(SI a x21 r_ x15 x9)) b6)=>hK _ _ ad.plOk ?_⟩
 obtain⟨x16,ex16,H⟩:=Aq H
 refine Dl 11 fun K hK=>?_
 refine wc [.c (.slice (some ⟨a,4,none⟩) x15.length 4)] bk ad (C7 n ad.has x15 ag ex16) fun co ce cr a4 an ae=>?_
 replace ah:=ah.mono (XU am an)
 obtain⟨x,y,rfl,aj⟩:=a4
 refine⟨.one (.c (.slice x x16.length y)),rfl,fun b7 (bl:Kn 24 [(a,0),(f,0),(g,0)] ((tS 16 x x16.length y)::(tS 10 q x10.length s)::(SI a x21 r_ x15 x9)) b7)=>hK _ _ ae.plOk ?_⟩
 obtain⟨x22,ex22,H⟩:=Aq H
 refine Dl 17 fun K hK=>?_
 refine wc [.c (.slice (some ⟨a,8,none⟩) x21.length 2)] bl ae (Hh n ae.has x21 ah ex22) fun cp ak ct a5 ao af=>?_
 replace ai:=ai.mono (XU an ao)
 replace aj:=aj.mono ao
 obtain⟨z,aa,rfl,b0⟩:=a5
 refine⟨.one (.c (.slice z x22.length aa)),rfl,fun b8 (bm:Kn 24 [(a,0),(f,0),(g,0)] ((tS 22 z x22.length aa)::(tS 16 x x16.length y)::(tS 10 q x10.length s)::(SI a x21 r_ x15 x9)) b8)=>hK _ _ af.plOk ?_⟩
 refine Dr [18] [18,17,11,5,16,15,14,13,12,10,9,8,7,6,4,3,2,1,0] [tA 23 [.slice q x10.length s,.slice x x16.length y,.slice z x22.length aa],tP 4 2 0] bm af fun b9 bn=>?_
 refine D8 19 rfl (by kernel_rfl) (by decide) (rfl) (by kernel_rfl) fun K hK=>?_
 refine G2 2 0 (.agg [.slice q x10.length s,.slice x x16.length y,.slice z x22.length aa]) [.slice q x10.length s,.slice x x16.length y,.slice z x22.length aa] bn af fun cc bo (br:Ah ⟨w,h,Aj⟩ ak [(a,0),(f,0),(g,0)] [⟨HZ d,none⟩,⟨JP j r_ m k o l p,some 43⟩,⟨[.slice q x10.length s,.slice x x16.length y,.slice z x22.length aa],some 34⟩] [] cc)=>hK _ _ ?_
 have a9:Kn 24 [(a,0),(f,0),(g,0)] [tP 4 2 0] b9:=bo.kp
 refine GB (by kernel_rfl) (wp_ret ?_)
 obtain rfl:=XZ H
 exact rt (.one (.agg [.slice q x10.length s,.slice x x16.length y,.slice z x22.length aa])) a9 br ⟨_,rfl,((Ab (Ad ai) (Ab (Ad aj) (Ad b0))):rep ak ((Am.mk x10 x16 x22):Am) _)⟩
end Go.Proofs.Ytokchpjijlebiaa
