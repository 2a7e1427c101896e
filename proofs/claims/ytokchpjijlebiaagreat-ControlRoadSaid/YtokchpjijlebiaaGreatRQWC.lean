/- Each call computes its plain function. -/
import Derived.Test.YtokchpjijlebiaaGreatProg
import Derived.Test.YtokchpjijlebiaaGreatRQWB
set_option linter.all false
namespace Go.Proofs.YtokchpjijlebiaaGreat
open Go Go.RowKit
set_option maxRecDepth 100000
set_option maxHeartbeats 4000000
open Rep (rep)
open KRep (kv)
open VRep (rv)
abbrev RR (a d e ar)(au:Nat)(aB:Int)(av)(ay:Nat):=([(a,0),(d,0),(e,0),(ar,au+Wv aB*3),(av,ay+Wv aB*3)]:Bh)
abbrev F4:List SC:=[Wu none 0 0,Ws 0,Ws 0,Wu none 0 0,Wu none 0 0,Ws 0,Ws 0,Ws 0,Ws 0]
abbrev Nf (x9:Rg)(r_:Af):=([Wu none 0 0,Ws x9.lo,Ws x9.hi,Wu none 0 0,Wu none 0 0,Ws r_.lI,Ws r_.gap,Ws r_.fr,Ws r_.to_]:List SC)
abbrev JL (p)(f:List Rg)(q)(x9:Rg)(y)(x:List CW)(z ab)(aa:List AK)(ac)(r_:Af):=([Wu p f.length q,Ws x9.lo,Ws x9.hi,Wu y x.length z,Wu ab aa.length ac,Ws r_.lI,Ws r_.gap,Ws r_.fr,Ws r_.to_]:List SC)
abbrev Qb (s)(r_:Af)(u g l k m):=([⟨UB s r_ u g l k m,some 28⟩,⟨F4,some 48⟩,⟨F4,some 48⟩]:List Db)
abbrev Cc:TM:=[tP 3 2 0,tP 2 1 0,tP 1 0 0]
abbrev OU (r_:Af):=([tI 17 r_.to_,tI 15 r_.fr,tI 13 r_.gap,tI 11 r_.lI,tA 8 (UJ r_),tP 2 1 0,tP 1 0 0]:TM)
theorem Fa (n:Nat) {h:Ae} {w:World} (hh:Dk h w) (r_:Af) {aP:Wx} (aW:rep h r_ aP) {r:Af} (H:ET n r_=some r) :
  Calls Tryz.prog 10 #[.agg aP.toArray] w (Dq (fun h v=>∃ cs,v=.agg cs.toArray∧rep h r cs) h w):=by
 obtain⟨_,_,rfl,⟨s,u,rfl,ap⟩,⟨_,_,rfl,⟨_,_,rfl,rfl,rfl⟩,⟨_,_,rfl,⟨g,l,rfl,am⟩,⟨_,_,rfl,⟨k,m,rfl,ah⟩,⟨_,_,rfl,rfl,⟨_,_,rfl,rfl,⟨_,_,rfl,rfl,rfl⟩⟩⟩⟩⟩⟩⟩:=aW
 refine enter 89 [.agg (UB s r_ u g l k m)] Tryz.func10 rfl rfl rfl rfl fun t hk=>?_
 have hm:=Ah.begin h w hh
 unfold ET at H
 refine XT (Aa (wl fun K hK=>?_))
 refine wb (.agg (UB s r_ u g l k m)) hk hm fun a hz jq (e7:Kn 89 [(a,0)] [tP 1 0 0,tA 0 (UB s r_ u g l k m)] hz) gw=>hK _ _ ?_
 refine wl fun K hK=>?_
 refine wa F4 e7 gw fun d d7 js (fe:Kn 89 [(a,0),(d,0)] [tP 2 1 0,tP 1 0 0,tA 0 (UB s r_ u g l k m)] d7) bv=>hK _ _ ?_
 have fi:Kn 89 [(a,0),(d,0)] [tP 2 1 0,tP 1 0 0] d7:=fe.kp
 refine wf (XT (Am (by kernel_rfl) ?_))
 replace bv:=bv.drew
 refine Ao [] [(a,0),(d,0)] [⟨UB s r_ u g l k m,some 28⟩,⟨F4,some 48⟩] ?_
 refine Dr [0,1,3,4,5,6,7,8,9,10] [10,9,8,7,6,5,4,3,1,0] (OU r_) fi bv fun h6 fp=>?_
 obtain⟨x9,iL,H⟩:=Av H
 have dr:Kn 89 [(a,0),(d,0),(0,0)] (OU r_) h6:=fp.push (0,0) (by kernel_rfl)
 have ct:=bv.addPlc (b:=0) (o:=0) (cs:=[]) (fun j c hj=>by simp at hj) rfl (by kernel_rfl) (by kernel_rfl)
 refine Cf (e':=[(a,0),(d,0),(0,0)]) (pl':=[⟨UB s r_ u g l k m,some 28⟩,⟨F4,some 48⟩,⟨[],none⟩]) (fun _ hp=>hp.pop (Nat.le_of_eq rfl) (by kernel_rfl)) ?_
 refine Bc (fun W=>∀ (e:Nat),∀ a' w',(∃ (b1:Array Value)(a0:Ae),a' = ⟨b1,[]⟩∧Kn 89 [(a,0),(d,0),(e,0)] [tP 3 2 0,tA 18 (Nf x9 r_),tP 2 1 0,tP 1 0 0] b1∧Ah ⟨w,h,A6⟩ a0 [(a,0),(d,0),(e,0)] (Qb s r_ u g l k m) [] w'∧Ae.le h a0)→W [(a,0),(d,0),(e,0)] (Qb s r_ u g l k m) [11,2,12,10,9,8,7,6,5,4,3,1,0] a' w') ?_ (fun d6=>?_)
 ·
  intro e
  rintro _ jz ⟨b1,a0,rfl,f2,gy,cj⟩
  replace ap:=ap.mono cj
  replace am:=am.mono cj
  replace ah:=ah.mono cj
  refine Cq 13 rfl (by kernel_rfl) (by decide) (rfl) (by kernel_rfl) fun K hK=>?_
  refine EZ 2 0 (.agg (Nf x9 r_)) (Nf x9 r_) f2 gy fun ip gb d4=>hK _ _ ?_
  refine Ao [] [(a,0),(d,0),(e,0)] [⟨UB s r_ u g l k m,some 28⟩,⟨F4,some 48⟩,⟨Nf x9 r_,some 48⟩] ?_
  have gh:Kn 89 [(a,0),(d,0),(e,0)] Cc b1:=gb.kp
  refine A2 (by kernel_rfl) (XT (XT (Aa (Rk 0 1 ((tI 4 0)::Cc) gh d4 fun jg gi=>?_))))
  refine wf ?_
  have gz:Ah ⟨w,h,A6⟩ a0 [(a,0),(d,0),(e,0)] [⟨UB s r_ u g l k m,some 28⟩,⟨F4,some 48⟩,⟨Nf x9 r_,some 48⟩] [⟨none,0,0,44,2,[],0⟩] ip:=d4.nilRow 44 2
  have ev:Ag a0 ([]:List Rg) []:=Ag.nil
  obtain⟨f,dl,H⟩:=Av H
  refine A0 (fun a' w'=>∃ (p:Ww)(q:Nat)(ae:Wx)(dd:Array Value)(ax:Ae),a' = ⟨dd,[]⟩∧Kn 89 [(a,0),(d,0),(e,0)] Cc dd∧Ah ⟨w,h,A6⟩ ax [(a,0),(d,0),(e,0)] [⟨UB s r_ u g l k m,some 28⟩,⟨F4,some 48⟩,⟨[Wu p f.length q,Ws x9.lo,Ws x9.hi,Wu none 0 0,Wu none 0 0,Ws r_.lI,Ws r_.gap,Ws r_.fr,Ws r_.to_],some 48⟩] [⟨p,f.length,q,44,2,ae,0⟩] w'∧Ae.le a0 ax∧Ag ax f ae) ?_ ?_
  ·
   refine wp_block ?_
   refine Au (fun hw a' w'=>∃ (aA:List Rg)(aD:Int)(an:Ww)(ao:Nat)(bd:Wx)(de:Array Value)(bn:Ae),a' = ⟨de,[]⟩∧Kn 89 [(a,0),(d,0),(e,0)] ((tI 4 aD)::Cc) de∧Ah ⟨w,h,A6⟩ bn [(a,0),(d,0),(e,0)] [⟨UB s r_ u g l k m,some 28⟩,⟨F4,some 48⟩,⟨[Wu an aA.length ao,Ws x9.lo,Ws x9.hi,Wu none 0 0,Wu none 0 0,Ws r_.lI,Ws r_.gap,Ws r_.fr,Ws r_.to_],some 48⟩] [⟨an,aA.length,ao,44,2,bd,0⟩] w'∧Ae.le a0 bn∧Ag bn aA bd∧Ee hw r_ aA aD=some f) n ?_ ?_
   ·
    exact XY ([]:List Rg) ⟨0,none,0,[],_,_,rfl,gi.kp,gz,Ae.le_refl _,ev,dl⟩
   ·
    rintro b0 _ j5 ⟨aA,aD,an,ao,bd,de,bn,rfl,gj,a4,bo,bt,aj⟩
    clear dl
    obtain _ | b0:=b0
    ·
     rw [Ee] at aj; cases aj
    rw [Ee] at aj
    replace ap:=ap.mono bo
    replace am:=am.mono bo
    replace ah:=ah.mono bo
    refine XT (XT (Aa (Rk 0 5 ((tB 23 (decide (aD<((r_.lA.length:Nat):Int))))::(tI 4 aD)::Cc) gj a4 fun jh cf=>?_)))
    refine wf (wC (decide (aD<((r_.lA.length:Nat):Int))) cf (fun b7=>?_) (fun b7=>?_))
    ·
     rw [b7,XW] at aj
     refine wp_skip (XT (wp_block (Am (by kernel_rfl) ?_)))
     replace a4:=a4.drew
     refine Ao [] [(a,0),(d,0),(e,0)] [⟨UB s r_ u g l k m,some 28⟩,⟨F4,some 48⟩,⟨[Wu an aA.length ao,Ws x9.lo,Ws x9.hi,Wu none 0 0,Wu none 0 0,Ws r_.lI,Ws r_.gap,Ws r_.fr,Ws r_.to_],some 48⟩] ?_
     refine Dr [0,1,2,3,4] (dn 4) ((tI 30 aD)::(tS 29 s r_.lA.length u)::(tS 27 an aA.length ao)::(tI 4 aD)::Cc) cf a4 fun ji gk=>?_
     obtain⟨aV,fP,aj⟩:=Av aj
     obtain⟨g4,g9,ht⟩:=Ai fP
     obtain⟨a7,ba,iy,ek,hn,ew⟩:=ap.get (by decide) ht
     obtain⟨_,_,rfl,rfl,rfl⟩:=hn
     have c1:=a4.addPlc (b:=a7) (o:=ba+Wv aD*2) (cs:=(OT aV)) (fun j c hj=>ew j _ (Ak hj)) rfl (by kernel_rfl) (by kernel_rfl)
     refine Az 5 (aD) (OT aV) (fun _ _ _ _ _ h=>h) rfl rfl (rfl) rfl (by decide) (by kernel_rfl) (by kernel_rfl) gk a4.plOk (by rfl) (by rfl) (by rfl) ek (by rfl) g4 g9 (by kernel_rfl) fun ij (gl:Kn 89 [(a,0),(d,0),(e,0),(a7,ba+Wv aD*2)] ((tP 31 3 0)::(tI 30 aD)::(tS 29 s r_.lA.length u)::(tS 27 an aA.length ao)::(tI 4 aD)::Cc) ij)=>?_
     refine Dr [6] (dn 6) ((tA 32 (OT aV))::(tS 27 an aA.length ao)::(tI 4 aD)::Cc) gl c1 fun jj gm=>?_
     obtain⟨fG,ex33,aj⟩:=Av aj
     refine Dl 7 fun K hK=>?_
     refine wc [.agg (OT aV)] gm c1 (Kr b0 c1.has aV ((Ab Ac Ac):rep bn aV _) ex33) fun jn b4 j6 ee du d5=>?_
     replace bt:=bt.mono du
     obtain⟨_,rfl,⟨_,_,rfl,rfl,rfl⟩⟩:=ee
     refine⟨.one (.agg [Ws fG.lo,Ws fG.hi]),rfl,fun ik (gn:Kn 89 [(a,0),(d,0),(e,0),(a7,ba+Wv aD*2)] ((tA 33 [Ws fG.lo,Ws fG.hi])::(tA 32 (OT aV))::(tS 27 an aA.length ao)::(tI 4 aD)::Cc) ik)=>hK _ _ d5.plOk ?_⟩
     refine Dl 8 fun K hK=>?_
     refine wS 44 2 [Ws fG.lo,Ws fG.hi] gn d5 fun di il j7 (go:Kn 89 [(a,0),(d,0),(e,0),(a7,ba+Wv aD*2)] ((tS 34 di 1 1)::(tA 33 [Ws fG.lo,Ws fG.hi])::(tA 32 (OT aV))::(tS 27 an aA.length ao)::(tI 4 aD)::Cc) il) c2=>?_
     have cc:Ag b4 ([fG]:List Rg) ([.int .i64 fG.lo,.int .i64 fG.hi]:Wx):=⟨_,_,rfl,((Ab Ac Ac):rep b4 (fG:Rg) _),rfl⟩
     refine hK _ _ c2.plOk ?_
     obtain⟨cO,jA,aj⟩:=Av aj
     obtain⟨c7,gr⟩:=Bb jA
     refine Dl 9 fun K hK=>?_
     refine AD 0 16 1 _ (cO.length) _ ([.int .i64 fG.lo,.int .i64 fG.hi]:Wx) go c2 rfl rfl (by decide) rfl (by rfl) (by kernel_rfl) (by rfl) (by rfl) (Ag.len cc) (c2.rowCell (i:=1) rfl) cc.one (by rw [c7]; simp <;> omega) (by rw [c7]; exact gr) (by decide) fun bg bj d8 hx jo ex (e0:Kn 89 [(a,0),(d,0),(e,0),(a7,ba+(aD:Int).toNat*2)] ((tS 35 bg cO.length bj)::(tS 34 di 1 1)::(tA 33 [Ws fG.lo,Ws fG.hi])::(tA 32 (OT aV))::(tS 27 an aA.length ao)::(tI 4 aD)::Cc) hx) cm=>?_
     have el:Ag b4 cO (bd++([.int .i64 fG.lo,.int .i64 fG.hi]:Wx)):=by rw [c7]; exact Ag.append bt cc
     obtain rfl:d8=0:=Nat.le_zero.1 ex
     refine hK _ _ cm.plOk ?_
     refine Dr [10] (dn 10) ((tP 36 2 0)::(tS 35 bg cO.length bj)::(tI 4 aD)::Cc) e0 cm fun hy e1=>?_
     refine Cq 11 rfl (by kernel_rfl) (by decide) (rfl) (by kernel_rfl) fun K hK=>?_
     refine EZ 2 0 (.c (Wu bg cO.length bj)) [Wu bg cO.length bj,Ws x9.lo,Ws x9.hi,Wu none 0 0,Wu none 0 0,Ws r_.lI,Ws r_.gap,Ws r_.fr,Ws r_.to_] e1 cm fun jp e2 dv=>hK _ _ ?_
     have e3:Kn 89 [(a,0),(d,0),(e,0),(a7,ba+Wv aD*2)] ((tI 4 aD)::Cc) hy:=e2.kp
     refine Em (by kernel_rfl) (Aa (Rk 0 3 ((tI 4 (Wt (aD+1)))::Cc) e3 dv fun i0 e4=>?_))
     refine wf ?_
     exact XY b0 ⟨Xc _,XY cO ⟨Wt (aD+1),bg,bj,bd++([.int .i64 fG.lo,.int .i64 fG.hi]:Wx),_,_,rfl,(e4.keep [4,3,2,1] (by rfl)).cut 3 (by kernel_rfl),(dv.cutRw 1).cutPl 3 (by kernel_rfl),XU bo du,el,aj⟩⟩
    ·
     rw [b7,XV] at aj
     refine wp_exit ?_
     obtain rfl:=XZ aj
     exact XY an ⟨ao,bd,_,_,rfl,cf.kp,a4,bo,bt⟩
  ·
   rintro _ im ⟨p,q,ae,dd,ax,rfl,e5,dw,cg,a1⟩
   replace ap:=ap.mono cg
   replace am:=am.mono cg
   replace ah:=ah.mono cg
   refine XT (XT (Aa (Rk 0 1 ((tI 5 0)::Cc) e5 dw fun i1 e6=>?_)))
   refine wf ?_
   have gv:Ah ⟨w,h,A6⟩ ax [(a,0),(d,0),(e,0)] [⟨UB s r_ u g l k m,some 28⟩,⟨F4,some 48⟩,⟨[Wu p f.length q,Ws x9.lo,Ws x9.hi,Wu none 0 0,Wu none 0 0,Ws r_.lI,Ws r_.gap,Ws r_.fr,Ws r_.to_],some 48⟩] [⟨p,f.length,q,44,2,ae,0⟩,⟨none,0,0,87,3,[],0⟩] im:=dw.nilRow 87 3
   have em:Ag ax ([]:List CW) []:=Ag.nil
   obtain⟨x,dj,H⟩:=Av H
   refine A0 (fun a' w'=>∃ (y:Ww)(z:Nat)(aq:Wx)(c9:Array Value)(aw:Ae),a' = ⟨c9,[]⟩∧Kn 89 [(a,0),(d,0),(e,0)] Cc c9∧Ah ⟨w,h,A6⟩ aw [(a,0),(d,0),(e,0)] [⟨UB s r_ u g l k m,some 28⟩,⟨F4,some 48⟩,⟨[Wu p f.length q,Ws x9.lo,Ws x9.hi,Wu y x.length z,Wu none 0 0,Ws r_.lI,Ws r_.gap,Ws r_.fr,Ws r_.to_],some 48⟩] [⟨p,f.length,q,44,2,ae,0⟩,⟨y,x.length,z,87,3,aq,0⟩] w'∧Ae.le ax aw∧Ag aw x aq) ?_ ?_
   ·
    refine wp_block ?_
    refine Au (fun hu a' w'=>∃ (aC:List CW)(aB:Int)(af:Ww)(ag:Nat)(bb:Wx)(da:Array Value)(bm:Ae),a' = ⟨da,[]⟩∧Kn 89 [(a,0),(d,0),(e,0)] ((tI 5 aB)::Cc) da∧Ah ⟨w,h,A6⟩ bm [(a,0),(d,0),(e,0)] [⟨UB s r_ u g l k m,some 28⟩,⟨F4,some 48⟩,⟨[Wu p f.length q,Ws x9.lo,Ws x9.hi,Wu af aC.length ag,Wu none 0 0,Ws r_.lI,Ws r_.gap,Ws r_.fr,Ws r_.to_],some 48⟩] [⟨p,f.length,q,44,2,ae,0⟩,⟨af,aC.length,ag,87,3,bb,0⟩] w'∧Ae.le ax bm∧Ag bm aC bb∧Ef hu r_ aC aB=some x) n ?_ ?_
    ·
     exact XY ([]:List CW) ⟨0,none,0,[],_,_,rfl,e6.kp,gv,Ae.le_refl _,em,dj⟩
    ·
     rintro bz _ jr ⟨aC,aB,af,ag,bb,da,bm,rfl,e8,a2,a8,bs,ad⟩
     clear dj
     obtain _ | bz:=bz
     ·
      rw [Ef] at ad; cases ad
     rw [Ef] at ad
     replace ap:=ap.mono a8
     replace am:=am.mono a8
     replace ah:=ah.mono a8
     replace a1:=a1.mono a8
     refine XT (XT (Aa (Rk 0 5 ((tB 41 (decide (aB<((r_.lB.length:Nat):Int))))::(tI 5 aB)::Cc) e8 a2 fun i2 cd=>?_)))
     refine wf (wC (decide (aB<((r_.lB.length:Nat):Int))) cd (fun b5=>?_) (fun b5=>?_))
     ·
      rw [b5,XW] at ad
      refine wp_skip (XT (wp_block (Am (by kernel_rfl) ?_)))
      replace a2:=a2.drew
      refine Ao [] [(a,0),(d,0),(e,0)] [⟨UB s r_ u g l k m,some 28⟩,⟨F4,some 48⟩,⟨[Wu p f.length q,Ws x9.lo,Ws x9.hi,Wu af aC.length ag,Wu none 0 0,Ws r_.lI,Ws r_.gap,Ws r_.fr,Ws r_.to_],some 48⟩] ?_
      refine Dr [0,1,2,3,4] (dn 4) ((tI 48 aB)::(tS 47 g r_.lB.length l)::(tS 45 af aC.length ag)::(tI 5 aB)::Cc) cd a2 fun i3 e9=>?_
      obtain⟨cA,gU,ad⟩:=Av ad
      obtain⟨g0,g5,ho⟩:=Ai gU
      obtain⟨ar,au,iu,eg,he,en⟩:=am.get (by decide) ho
      obtain⟨_,_,rfl,rfl,⟨_,_,rfl,rfl,rfl⟩⟩:=he
      have cn:=a2.addPlc (b:=ar) (o:=au+Wv aB*3) (cs:=[Ws cA.stop,Ws cA.tm.lo,Ws cA.tm.hi]) (fun j c hj=>en j _ (Ak hj)) rfl (by kernel_rfl) (by kernel_rfl)
      refine Az 5 (aB) [Ws cA.stop,Ws cA.tm.lo,Ws cA.tm.hi] (fun _ _ _ _ _ h=>h) rfl rfl (rfl) rfl (by decide) (by kernel_rfl) (by kernel_rfl) e9 a2.plOk (by rfl) (by rfl) (by rfl) eg (by rfl) g0 g5 (by kernel_rfl) fun h0 (fa:Kn 89 [(a,0),(d,0),(e,0),(ar,au+Wv aB*3)] ((tP 49 3 0)::(tI 48 aB)::(tS 47 g r_.lB.length l)::(tS 45 af aC.length ag)::(tI 5 aB)::Cc) h0)=>?_
      refine Dr [6,7,8,9,10] (dn 10) ((tI 54 aB)::(tS 53 g r_.lB.length l)::(tI 51 cA.stop)::(tS 45 af aC.length ag)::(tI 5 aB)::Cc) fa cn fun i4 fb=>?_
      obtain⟨eQ,kM,ad⟩:=Av ad
      obtain⟨g1,g6,hq⟩:=Ai kM
      obtain⟨av,ay,iv,eh,hf,eo⟩:=am.get (by decide) hq
      obtain⟨_,_,rfl,rfl,⟨_,_,rfl,rfl,rfl⟩⟩:=hf
      have co:=cn.addPlc (b:=av) (o:=ay+Wv aB*3) (cs:=[Ws eQ.stop,Ws eQ.tm.lo,Ws eQ.tm.hi]) (fun j c hj=>eo j _ (Ak hj)) rfl (by kernel_rfl) (by kernel_rfl)
      refine Az 11 (aB) [Ws eQ.stop,Ws eQ.tm.lo,Ws eQ.tm.hi] (fun _ _ _ _ _ h=>h) rfl rfl (rfl) rfl (by decide) (by kernel_rfl) (by kernel_rfl) fb cn.plOk (by rfl) (by rfl) (by rfl) eh (by rfl) g1 g6 (by kernel_rfl) fun h1 (fc:Kn 89 (RR a d e ar au aB av ay) ((tP 55 4 0)::(tI 54 aB)::(tS 53 g r_.lB.length l)::(tI 51 cA.stop)::(tS 45 af aC.length ag)::(tI 5 aB)::Cc) h1)=>?_
      refine Dr [12,13] (dn 13) ((tA 57 [Ws eQ.tm.lo,Ws eQ.tm.hi])::(tI 51 cA.stop)::(tS 45 af aC.length ag)::(tI 5 aB)::Cc) fc co fun i5 fd=>?_
      obtain⟨dM,jB,ad⟩:=Av ad
      refine Dl 14 fun K hK=>?_
      refine wc [.agg [Ws eQ.tm.lo,Ws eQ.tm.hi]] fd co (Kr bz co.has eQ.tm ((Ab Ac Ac):rep bm eQ.tm _) jB) fun jk b2 jt eb ds cp=>?_
      replace bs:=bs.mono ds
      obtain⟨_,rfl,⟨_,_,rfl,rfl,rfl⟩⟩:=eb
      refine⟨.one (.agg [Ws dM.lo,Ws dM.hi]),rfl,fun h2 (ff:Kn 89 (RR a d e ar au aB av ay) ((tA 58 [Ws dM.lo,Ws dM.hi])::(tA 57 [Ws eQ.tm.lo,Ws eQ.tm.hi])::(tI 51 cA.stop)::(tS 45 af aC.length ag)::(tI 5 aB)::Cc) h2)=>hK _ _ cp.plOk ?_⟩
      refine Dr [15] (dn 15) ((tA 59 [Ws cA.stop,Ws dM.lo,Ws dM.hi])::(tS 45 af aC.length ag)::(tI 5 aB)::Cc) ff cp fun i6 fg=>?_
      refine Dl 16 fun K hK=>?_
      refine wS 87 3 [Ws cA.stop,Ws dM.lo,Ws dM.hi] fg cp fun dg h3 ju (fh:Kn 89 (RR a d e ar au aB av ay) ((tS 60 dg 1 1)::(tA 59 [Ws cA.stop,Ws dM.lo,Ws dM.hi])::(tS 45 af aC.length ag)::(tI 5 aB)::Cc) h3) cq=>?_
      have b9:Ag b2 ([CW.mk cA.stop dM]:List CW) ([.int .i64 cA.stop,.int .i64 dM.lo,.int .i64 dM.hi]:Wx):=⟨_,_,rfl,((Ab Ac (Ab Ac Ac)):rep b2 ((CW.mk cA.stop dM):CW) _),rfl⟩
      refine hK _ _ cq.plOk ?_
      obtain⟨cF,ge,ad⟩:=Av ad
      obtain⟨c5,gp⟩:=Bb ge
      refine Dl 17 fun K hK=>?_
      refine AD 1 24 1 _ (cF.length) _ ([.int .i64 cA.stop,.int .i64 dM.lo,.int .i64 dM.hi]:Wx) fh cq rfl rfl (by decide) rfl (by rfl) (by kernel_rfl) (by rfl) (by rfl) (Ag.len b9) (cq.rowCell (i:=2) rfl) b9.one (by rw [c5]; simp <;> omega) (by rw [c5]; exact gp) (by decide) fun be bk d9 h4 jv ey (fj:Kn 89 (RR a d e ar au aB av ay) ((tS 61 be cF.length bk)::(tS 60 dg 1 1)::(tA 59 [Ws cA.stop,Ws dM.lo,Ws dM.hi])::(tS 45 af aC.length ag)::(tI 5 aB)::Cc) h4) cr=>?_
      have ep:Ag b2 cF (bb++([.int .i64 cA.stop,.int .i64 dM.lo,.int .i64 dM.hi]:Wx)):=by rw [c5]; exact Ag.append bs b9
      obtain rfl:d9=0:=Nat.le_zero.1 ey
      refine hK _ _ cr.plOk ?_
      refine Dr [18] (dn 18) ((tP 62 2 3)::(tS 61 be cF.length bk)::(tI 5 aB)::Cc) fj cr fun h5 fk=>?_
      refine Cq 19 rfl (by kernel_rfl) (by decide) (rfl) (by kernel_rfl) fun K hK=>?_
      refine EZ 2 3 (.c (Wu be cF.length bk)) [Wu p f.length q,Ws x9.lo,Ws x9.hi,Wu be cF.length bk,Wu none 0 0,Ws r_.lI,Ws r_.gap,Ws r_.fr,Ws r_.to_] fk cr fun jw fl dx=>hK _ _ ?_
      have fm:Kn 89 (RR a d e ar au aB av ay) ((tI 5 aB)::Cc) h5:=fl.kp
      refine Em (by kernel_rfl) (Aa (Rk 0 3 ((tI 5 (Wt (aB+1)))::Cc) fm dx fun i7 fn=>?_))
      refine wf ?_
      exact XY bz ⟨Xc _,XY cF ⟨Wt (aB+1),be,bk,bb++([.int .i64 cA.stop,.int .i64 dM.lo,.int .i64 dM.hi]:Wx),_,_,rfl,(fn.keep [5,3,2,1] (by rfl)).cut 3 (by kernel_rfl),(dx.cutRw 2).cutPl 3 (by kernel_rfl),XU a8 ds,ep,ad⟩⟩
     ·
      rw [b5,XV] at ad
      refine wp_exit ?_
      obtain rfl:=XZ ad
      exact XY af ⟨ag,bb,_,_,rfl,cd.kp,a2,a8,bs⟩
   ·
    rintro _ io ⟨y,z,aq,c9,aw,rfl,fo,dy,bu,b8⟩
    replace ap:=ap.mono bu
    replace am:=am.mono bu
    replace ah:=ah.mono bu
    replace a1:=a1.mono bu
    refine XT (XT (Aa (Rk 0 1 ((tI 6 0)::Cc) fo dy fun i8 fq=>?_)))
    refine wf ?_
    have gx:Ah ⟨w,h,A6⟩ aw [(a,0),(d,0),(e,0)] [⟨UB s r_ u g l k m,some 28⟩,⟨F4,some 48⟩,⟨[Wu p f.length q,Ws x9.lo,Ws x9.hi,Wu y x.length z,Wu none 0 0,Ws r_.lI,Ws r_.gap,Ws r_.fr,Ws r_.to_],some 48⟩] [⟨p,f.length,q,44,2,ae,0⟩,⟨y,x.length,z,87,3,aq,0⟩,⟨none,0,0,90,2,[],0⟩] io:=dy.nilRow 90 2
    have er:Ag aw ([]:List AK) []:=Ag.nil
    obtain⟨aa,dk,H⟩:=Av H
    refine A0 (fun a' w'=>∃ (ab:Ww)(ac:Nat)(a5:Wx)(db:Array Value)(br:Ae),a' = ⟨db,[]⟩∧Kn 89 [(a,0),(d,0),(e,0)] [tP 3 2 0,tP 2 1 0] db∧Ah ⟨w,h,A6⟩ br [(a,0),(d,0),(e,0)] [⟨UB s r_ u g l k m,some 28⟩,⟨F4,some 48⟩,⟨JL p f q x9 y x z ab aa ac r_,some 48⟩] [⟨p,f.length,q,44,2,ae,0⟩,⟨y,x.length,z,87,3,aq,0⟩,⟨ab,aa.length,ac,90,2,a5,0⟩] w'∧Ae.le aw br∧Ag br aa a5) ?_ ?_
    ·
     refine wp_block ?_
     refine Au (fun hv a' w'=>∃ (aH:List AK)(aL:Int)(ak:Ww)(al:Nat)(bc:Wx)(dc:Array Value)(az:Ae),a' = ⟨dc,[]⟩∧Kn 89 [(a,0),(d,0),(e,0)] ((tI 6 aL)::Cc) dc∧Ah ⟨w,h,A6⟩ az [(a,0),(d,0),(e,0)] [⟨UB s r_ u g l k m,some 28⟩,⟨F4,some 48⟩,⟨[Wu p f.length q,Ws x9.lo,Ws x9.hi,Wu y x.length z,Wu ak aH.length al,Ws r_.lI,Ws r_.gap,Ws r_.fr,Ws r_.to_],some 48⟩] [⟨p,f.length,q,44,2,ae,0⟩,⟨y,x.length,z,87,3,aq,0⟩,⟨ak,aH.length,al,90,2,bc,0⟩] w'∧Ae.le aw az∧Ag az aH bc∧Eg hv r_ aH aL=some aa) n ?_ ?_
     ·
      exact XY ([]:List AK) ⟨0,none,0,[],_,_,rfl,fq.kp,gx,Ae.le_refl _,er,dk⟩
     ·
      rintro c8 _ jx ⟨aH,aL,ak,al,bc,dc,az,rfl,fs,a3,ch,dq,ai⟩
      clear dk
      obtain _ | c8:=c8
      ·
       rw [Eg] at ai; cases ai
      rw [Eg] at ai
      replace ah:=ah.mono ch
      refine XT (XT (Aa (Rk 0 5 ((tB 67 (decide (aL<((r_.lC.length:Nat):Int))))::(tI 6 aL)::Cc) fs a3 fun i9 ce=>?_)))
      refine wf (wC (decide (aL<((r_.lC.length:Nat):Int))) ce (fun b6=>?_) (fun b6=>?_))
      ·
       rw [b6,XW] at ai
       refine wp_skip (XT (wp_block (Am (by kernel_rfl) ?_)))
       replace a3:=a3.drew
       refine Ao [] [(a,0),(d,0),(e,0)] [⟨UB s r_ u g l k m,some 28⟩,⟨F4,some 48⟩,⟨[Wu p f.length q,Ws x9.lo,Ws x9.hi,Wu y x.length z,Wu ak aH.length al,Ws r_.lI,Ws r_.gap,Ws r_.fr,Ws r_.to_],some 48⟩] ?_
       refine Dr [0,1,2,3,4] (dn 4) ((tI 74 aL)::(tS 73 k r_.lC.length m)::(tS 71 ak aH.length al)::(tI 6 aL)::Cc) ce a3 fun ja ft=>?_
       obtain⟨dH,gV,ai⟩:=Av ai
       obtain⟨g2,g7,hr⟩:=Ai gV
       obtain⟨a6,a9,iw,ei,hg,es⟩:=ah.get (by decide) hr
       obtain⟨_,_,rfl,rfl,rfl⟩:=hg
       have cu:=a3.addPlc (b:=a6) (o:=a9+Wv aL*2) (cs:=[Ws dH.stop,Ws dH.tm]) (fun j c hj=>es j _ (Ak hj)) rfl (by kernel_rfl) (by kernel_rfl)
       refine Az 5 (aL) [Ws dH.stop,Ws dH.tm] (fun _ _ _ _ _ h=>h) rfl rfl (rfl) rfl (by decide) (by kernel_rfl) (by kernel_rfl) ft a3.plOk (by rfl) (by rfl) (by rfl) ei (by rfl) g2 g7 (by kernel_rfl) fun h7 (fu:Kn 89 [(a,0),(d,0),(e,0),(a6,a9+Wv aL*2)] ((tP 75 3 0)::(tI 74 aL)::(tS 73 k r_.lC.length m)::(tS 71 ak aH.length al)::(tI 6 aL)::Cc) h7)=>?_
       refine Dr [6,7,8,9,10] (dn 10) ((tI 80 aL)::(tS 79 k r_.lC.length m)::(tI 77 dH.stop)::(tS 71 ak aH.length al)::(tI 6 aL)::Cc) fu cu fun jb fv=>?_
       obtain⟨bL,kN,ai⟩:=Av ai
       obtain⟨g3,g8,hs⟩:=Ai kN
       obtain⟨bh,bp,ix,ej,hl,et⟩:=ah.get (by decide) hs
       obtain⟨_,_,rfl,rfl,rfl⟩:=hl
       have dz:=cu.addPlc (b:=bh) (o:=bp+Wv aL*2) (cs:=[Ws bL.stop,Ws bL.tm]) (fun j c hj=>et j _ (Ak hj)) rfl (by kernel_rfl) (by kernel_rfl)
       refine Az 11 (aL) [Ws bL.stop,Ws bL.tm] (fun _ _ _ _ _ h=>h) rfl rfl (rfl) rfl (by decide) (by kernel_rfl) (by kernel_rfl) fv cu.plOk (by rfl) (by rfl) (by rfl) ej (by rfl) g3 g8 (by kernel_rfl) fun h8 (fw:Kn 89 [(a,0),(d,0),(e,0),(a6,a9+Wv aL*2),(bh,bp+Wv aL*2)] ((tP 81 4 0)::(tI 80 aL)::(tS 79 k r_.lC.length m)::(tI 77 dH.stop)::(tS 71 ak aH.length al)::(tI 6 aL)::Cc) h8)=>?_
       refine Dr [12,13,14] (dn 14) ((tA 84 [Ws dH.stop,Ws bL.tm])::(tS 71 ak aH.length al)::(tI 6 aL)::Cc) fw dz fun jc fx=>?_
       refine Dl 15 fun K hK=>?_
       refine wS 90 2 [Ws dH.stop,Ws bL.tm] fx dz fun dh h9 jy (fy:Kn 89 [(a,0),(d,0),(e,0),(a6,a9+Wv aL*2),(bh,bp+Wv aL*2)] ((tS 85 dh 1 1)::(tA 84 [Ws dH.stop,Ws bL.tm])::(tS 71 ak aH.length al)::(tI 6 aL)::Cc) h9) cv=>?_
       have cb:Ag az ([AK.mk dH.stop bL.tm]:List AK) ([.int .i64 dH.stop,.int .i64 bL.tm]:Wx):=⟨_,_,rfl,((Ab Ac Ac):rep az ((AK.mk dH.stop bL.tm):AK) _),rfl⟩
       refine hK _ _ cv.plOk ?_
       obtain⟨dI,jM,ai⟩:=Av ai
       obtain⟨c6,gq⟩:=Bb jM
       refine Dl 16 fun K hK=>?_
       refine AD 2 16 1 _ (dI.length) _ ([.int .i64 dH.stop,.int .i64 bL.tm]:Wx) fy cv rfl rfl (by decide) rfl (by rfl) (by kernel_rfl) (by rfl) (by rfl) (Ag.len cb) (cv.rowCell (i:=3) rfl) cb.one (by rw [c6]; simp <;> omega) (by rw [c6]; exact gq) (by decide) fun bf bl ea ia j0 ez (fz:Kn 89 [(a,0),(d,0),(e,0),(a6,a9+(aL:Int).toNat*2),(bh,bp+(aL:Int).toNat*2)] ((tS 86 bf dI.length bl)::(tS 85 dh 1 1)::(tA 84 [Ws dH.stop,Ws bL.tm])::(tS 71 ak aH.length al)::(tI 6 aL)::Cc) ia) cw=>?_
       have eu:Ag az dI (bc++([.int .i64 dH.stop,.int .i64 bL.tm]:Wx)):=by rw [c6]; exact Ag.append dq cb
       obtain rfl:ea=0:=Nat.le_zero.1 ez
       refine hK _ _ cw.plOk ?_
       refine Dr [17] (dn 17) ((tP 87 2 4)::(tS 86 bf dI.length bl)::(tI 6 aL)::Cc) fz cw fun ib f0=>?_
       refine Cq 18 rfl (by kernel_rfl) (by decide) (rfl) (by kernel_rfl) fun K hK=>?_
       refine EZ 2 4 (.c (Wu bf dI.length bl)) [Wu p f.length q,Ws x9.lo,Ws x9.hi,Wu y x.length z,Wu bf dI.length bl,Ws r_.lI,Ws r_.gap,Ws r_.fr,Ws r_.to_] f0 cw fun j1 f1 d0=>hK _ _ ?_
       have f3:Kn 89 [(a,0),(d,0),(e,0),(a6,a9+Wv aL*2),(bh,bp+Wv aL*2)] ((tI 6 aL)::Cc) ib:=f1.kp
       refine Em (by kernel_rfl) (Aa (Rk 0 3 ((tI 6 (Wt (aL+1)))::Cc) f3 d0 fun jd f4=>?_))
       refine wf ?_
       exact XY c8 ⟨Xc _,XY dI ⟨Wt (aL+1),bf,bl,bc++([.int .i64 dH.stop,.int .i64 bL.tm]:Wx),_,_,rfl,(f4.keep [6,3,2,1] (by rfl)).cut 3 (by kernel_rfl),(d0.cutRw 3).cutPl 3 (by kernel_rfl),ch,eu,ai⟩⟩
      ·
       rw [b6,XV] at ai
       refine wp_exit ?_
       obtain rfl:=XZ ai
       exact XY ak ⟨al,bc,_,_,rfl,ce.kp,a3,ch,dq⟩
    ·
     rintro _ j2 ⟨ab,ac,a5,db,br,rfl,f5,d1,dt,ca⟩
     refine XT (Aa (Rk 0 1 [tA 88 (JL p f q x9 y x z ab aa ac r_),tP 2 1 0] f5 d1 fun ic f6=>?_))
     refine wl fun K hK=>?_
     refine EZ 1 0 (.agg (JL p f q x9 y x z ab aa ac r_)) (JL p f q x9 y x z ab aa ac r_) f6 d1 fun df f7 d2=>hK _ _ ?_
     have f8:Kn 89 [(a,0),(d,0),(e,0)] [tP 2 1 0] ic:=f7.kp
     refine wf (wp_ret ?_)
     obtain⟨dm,ci,hb,bw⟩:=d2.settle (i:=0) rfl
     replace a1:=a1.mono (XU dt ci)
     replace bw:Ah ⟨w,h,A6⟩ dm [(a,0),(d,0),(e,0)] [⟨UB s r_ u g l k m,some 28⟩,⟨JL p f q x9 y x z ab aa ac r_,some 48⟩,⟨JL p f q x9 y x z ab aa ac r_,some 48⟩] [⟨p,f.length,q,44,2,ae,(ae:Wx).length⟩,⟨y,x.length,z,87,3,aq,0⟩,⟨ab,aa.length,ac,90,2,a5,0⟩] df:=bw
     have c3:A4 dm p q f:=⟨_,a1,hb,d2.rowCap (i:=0) rfl⟩
     obtain⟨dp,ck,hc,bx⟩:=bw.settle (i:=1) rfl
     replace b8:=b8.mono (XU (XU dt ci) ck)
     replace bx:Ah ⟨w,h,A6⟩ dp [(a,0),(d,0),(e,0)] [⟨UB s r_ u g l k m,some 28⟩,⟨JL p f q x9 y x z ab aa ac r_,some 48⟩,⟨JL p f q x9 y x z ab aa ac r_,some 48⟩] [⟨p,f.length,q,44,2,ae,(ae:Wx).length⟩,⟨y,x.length,z,87,3,aq,(aq:Wx).length⟩,⟨ab,aa.length,ac,90,2,a5,0⟩] df:=bx
     have c4:A4 dp y z x:=⟨_,b8,hc,bw.rowCap (i:=1) rfl⟩
     obtain⟨b3,cl,hd,cx⟩:=bx.settle (i:=2) rfl
     replace c3:=c3.mono (XU ck cl)
     replace c4:=c4.mono cl
     replace ca:=ca.mono (XU (XU ci ck) cl)
     replace cx:Ah ⟨w,h,A6⟩ b3 [(a,0),(d,0),(e,0)] [⟨UB s r_ u g l k m,some 28⟩,⟨JL p f q x9 y x z ab aa ac r_,some 48⟩,⟨JL p f q x9 y x z ab aa ac r_,some 48⟩] [⟨p,f.length,q,44,2,ae,(ae:Wx).length⟩,⟨y,x.length,z,87,3,aq,(aq:Wx).length⟩,⟨ab,aa.length,ac,90,2,a5,(a5:Wx).length⟩] df:=cx
     have ha:A4 b3 ab ac aa:=⟨_,ca,hd,bx.rowCap (i:=2) rfl⟩
     obtain rfl:=XZ H
     exact rt (.one (.agg (JL p f q x9 y x z ab aa ac r_))) f8 cx ⟨_,rfl,((Ab (Ad c3) (Ab (Ab Ac Ac) (Ab (Ad c4) (Ab (Ad ha) (Ab Ac (Ab Ac (Ab Ac Ac))))))):rep b3 ((Af.mk f x9 x aa r_.lI r_.gap r_.fr r_.to_):Af) _)⟩
 refine D0 2 12 rfl rfl (by kernel_rfl) (by decide) (rfl) (rfl) (fun K hK=>?_) (fun K hK=>?_)
 ·
  refine wc [.agg (UJ r_)] dr ct (Kr n ct.has r_.turn ((Ab Ac Ac):rep h r_.turn _) iL) fun jl ef j3 ec gs cy=>?_
  obtain⟨_,rfl,⟨_,_,rfl,rfl,rfl⟩⟩:=ec
  refine⟨.one (.agg [Ws x9.lo,Ws x9.hi]),rfl,fun ie (f9:Kn 89 [(a,0),(d,0),(0,0)] ((tA 9 [Ws x9.lo,Ws x9.hi])::(OU r_)) ie)=>hK _ _ cy.plOk ?_⟩
  refine Dr [11] [11,2,10,9,8,7,6,5,4,3,1,0] [tA 18 (Nf x9 r_),tP 2 1 0,tP 1 0 0] f9 cy fun je ga=>?_
  refine Dl 12 fun K hK=>?_
  refine JF 2 F4 ga cy fun bq ig iq (gc:Kn 89 [(a,0),(d,0),(bq,0)] [tP 3 2 0,tA 18 (Nf x9 r_),tP 2 1 0,tP 1 0 0] ig) (d3:Ah ⟨w,h,A6⟩ ef [(a,0),(d,0),(bq,0)] (Qb s r_ u g l k m) [] iq)=>hK _ _ (Ay.unset 2 rfl (by kernel_rfl) d3.plOk) (Cf (e':=[(a,0),(d,0),(bq,0)]) (pl':=(Qb s r_ u g l k m)) (fun _ hp=>hp.unset 2 rfl (by kernel_rfl)) ?_)
  refine Ax [11,2,12,10,9,8,7,6,5,4,3,1,0] (by kernel_rfl) (by rfl) (d6 bq _ _ ?_)
  exact XY _ ⟨_,rfl,gc.kp,d3,gs⟩
 ·
  refine JF 2 F4 dr ct fun bi ih ir (gd:Kn 89 [(a,0),(d,0),(bi,0)] ((tP 3 2 0)::(OU r_)) ih) (cz:Ah ⟨w,h,A6⟩ h [(a,0),(d,0),(bi,0)] (Qb s r_ u g l k m) [] ir)=>hK _ _ (Ay.unset 2 rfl (by kernel_rfl) cz.plOk) (Cf (e':=[(a,0),(d,0),(bi,0)]) (pl':=(Qb s r_ u g l k m)) (fun _ hp=>hp.unset 2 rfl (by kernel_rfl)) ?_)
  refine Dl 2 fun K hK=>?_
  refine wc [.agg (UJ r_)] gd cz (Kr n cz.has r_.turn ((Ab Ac Ac):rep h r_.turn _) iL) fun jm iz j4 ed gu c0=>?_
  obtain⟨_,rfl,⟨_,_,rfl,rfl,rfl⟩⟩:=ed
  refine⟨.one (.agg [Ws x9.lo,Ws x9.hi]),rfl,fun ii (gf:Kn 89 [(a,0),(d,0),(bi,0)] ((tA 9 [Ws x9.lo,Ws x9.hi])::(tP 3 2 0)::(OU r_)) ii)=>hK _ _ c0.plOk ?_⟩
  refine Dr [11] [11,2,12,10,9,8,7,6,5,4,3,1,0] ((tA 18 (Nf x9 r_))::Cc) gf c0 fun jf gg=>?_
  refine Ax [11,2,12,10,9,8,7,6,5,4,3,1,0] (by kernel_rfl) (by rfl) (d6 bi _ _ ?_)
  exact XY _ ⟨_,rfl,gg.kp,c0,gu⟩
abbrev K4 (g)(t_:Ap)(k d f l m):=([⟨Ie g t_ k d f l m,some 38⟩,⟨UE,some 52⟩,⟨UE,some 52⟩]:List Db)
abbrev OV (d)(t_:Ap)(f g k):=((tS 9 d t_.lE.length f)::(tS 6 g t_.tm.length k)::Fo:TM)
theorem LP (n:Nat) {h:Ae} {w:World} (hh:Dk h w) (t_:Ap) {cI:Wx} (dF:rep h t_ cI) {r:Ap} (H:GW n t_=some r) :
  Calls Tryz.prog 12 #[.agg cI.toArray] w (Dq (fun h v=>∃ cs,v=.agg cs.toArray∧rep h r cs) h w):=by
 obtain⟨_,_,rfl,⟨g,k,rfl,ak⟩,⟨_,_,rfl,⟨d,f,rfl,ae⟩,⟨l,m,rfl,ap⟩⟩⟩:=dF
 refine enter 31 [.agg (Ie g t_ k d f l m)] Tryz.func12 rfl rfl rfl rfl fun t hk=>?_
 have hm:=Ah.begin h w hh
 unfold GW at H
 refine XT (Aa (wl fun K hK=>?_))
 refine wb (.agg (Ie g t_ k d f l m)) hk hm fun a eo fo (df:Kn 31 [(a,0)] [tP 1 0 0,tA 0 (Ie g t_ k d f l m)] eo) d7=>hK _ _ ?_
 refine wl fun K hK=>?_
 refine wa UE df d7 fun e ct fu (dm:Kn 31 [(a,0),(e,0)] [tP 2 1 0,tP 1 0 0,tA 0 (Ie g t_ k d f l m)] ct) bg=>hK _ _ ?_
 have dt:Kn 31 [(a,0),(e,0)] Fo ct:=dm.kp
 refine wf (XT (Am (by kernel_rfl) ?_))
 replace bg:=bg.drew
 refine Ao [] [(a,0),(e,0)] [⟨Ie g t_ k d f l m,some 38⟩,⟨UE,some 52⟩] ?_
 refine Dr [0,1,3,4] [4,3,1,0] (OV d t_ f g k) dt bg fun ez dw=>?_
 obtain⟨x7,fL,H⟩:=Av H
 obtain⟨bP,dS,H⟩:=Av H
 have cb:Kn 31 [(a,0),(e,0),(0,0)] (OV d t_ f g k) ez:=dw.push (0,0) (by kernel_rfl)
 have b1:=bg.addPlc (b:=0) (o:=0) (cs:=[]) (fun j c hj=>by simp at hj) rfl (by kernel_rfl) (by kernel_rfl)
 refine Cf (e':=[(a,0),(e,0),(0,0)]) (pl':=[⟨Ie g t_ k d f l m,some 38⟩,⟨UE,some 52⟩,⟨[],none⟩]) (fun _ hp=>hp.pop (Nat.le_of_eq rfl) (by kernel_rfl)) ?_
 refine Bc (fun W=>∀ (p:Nat),∀ (q:Ww),∀ (u:Nat),∀ (s:Ww),∀ (x:Nat),∀ a' w',(∃ (bj:Array Value)(ah:Ae),a' = ⟨bj,[]⟩∧Kn 31 [(a,0),(e,0),(p,0)] ((tP 3 2 0)::(tA 11 [Wu q x7.length u,Wu s bP.length x,Wu none 0 0])::Fo) bj∧Ah ⟨w,h,A6⟩ ah [(a,0),(e,0),(p,0)] (K4 g t_ k d f l m) [] w'∧Ae.le h ah∧A4 ah q u x7∧A4 ah s x bP)→W [(a,0),(e,0),(p,0)] (K4 g t_ k d f l m) [6,5,2,7,4,3,1,0] a' w') ?_ (fun cr=>?_)
 ·
  intro p q u s x
  rintro _ fx ⟨bj,ah,rfl,dx,d8,bt,a4,a5⟩
  replace ak:=ak.mono bt
  replace ae:=ae.mono bt
  replace ap:=ap.mono bt
  refine Cq 8 rfl (by kernel_rfl) (by decide) (rfl) (by kernel_rfl) fun K hK=>?_
  refine EZ 2 0 (.agg [Wu q x7.length u,Wu s bP.length x,Wu none 0 0]) [Wu q x7.length u,Wu s bP.length x,Wu none 0 0] dx d8 fun e6 dy co=>hK _ _ ?_
  refine Ao [] [(a,0),(e,0),(p,0)] [⟨Ie g t_ k d f l m,some 38⟩,⟨UE,some 52⟩,⟨[Wu q x7.length u,Wu s bP.length x,Wu none 0 0],some 52⟩] ?_
  have dz:Kn 31 [(a,0),(e,0),(p,0)] ((tP 3 2 0)::Fo) bj:=dy.kp
  refine A2 (by kernel_rfl) (XT (XT (Aa (Rk 0 1 ((tI 4 0)::(tP 3 2 0)::Fo) dz co fun fd d0=>?_))))
  refine wf ?_
  have d9:Ah ⟨w,h,A6⟩ ah [(a,0),(e,0),(p,0)] [⟨Ie g t_ k d f l m,some 38⟩,⟨UE,some 52⟩,⟨[Wu q x7.length u,Wu s bP.length x,Wu none 0 0],some 52⟩] [⟨none,0,0,29,1,[],0⟩] e6:=co.nilRow 29 1
  have c4:Ag ah ([]:List (List Int)) []:=Ag.nil
  obtain⟨z,b9,H⟩:=Av H
  refine A0 (fun a' w'=>∃ (ab:Ww)(ad:Nat)(a6:Wx)(b6:Array Value)(bc:Ae),a' = ⟨b6,[]⟩∧Kn 31 [(a,0),(e,0),(p,0)] [tP 3 2 0,tP 2 1 0] b6∧Ah ⟨w,h,A6⟩ bc [(a,0),(e,0),(p,0)] [⟨Ie g t_ k d f l m,some 38⟩,⟨UE,some 52⟩,⟨[Wu q x7.length u,Wu s bP.length x,Wu ab z.length ad],some 52⟩] [⟨ab,z.length,ad,29,1,a6,0⟩] w'∧Ae.le ah bc∧Ag bc z a6) ?_ ?_
  ·
   refine wp_block ?_
   refine Au (fun el a' w'=>∃ (aA:List (List Int))(aD:Int)(aa:Ww)(ac:Nat)(ax:Wx)(b7:Array Value)(bd:Ae),a' = ⟨b7,[]⟩∧Kn 31 [(a,0),(e,0),(p,0)] ((tI 4 aD)::(tP 3 2 0)::Fo) b7∧Ah ⟨w,h,A6⟩ bd [(a,0),(e,0),(p,0)] [⟨Ie g t_ k d f l m,some 38⟩,⟨UE,some 52⟩,⟨[Wu q x7.length u,Wu s bP.length x,Wu aa aA.length ac],some 52⟩] [⟨aa,aA.length,ac,29,1,ax,0⟩] w'∧Ae.le ah bd∧Ag bd aA ax∧Eh el t_ aA aD=some z) n ?_ ?_
   ·
    exact XY ([]:List (List Int)) ⟨0,none,0,[],_,_,rfl,d0.kp,d9,Ae.le_refl _,c4,b9⟩
   ·
    rintro bi _ fy ⟨aA,aD,aa,ac,ax,b7,bd,rfl,d1,ao,an,be,y⟩
    clear b9
    obtain _ | bi:=bi
    ·
     rw [Eh] at y; cases y
    rw [Eh] at y
    replace ak:=ak.mono an
    replace ae:=ae.mono an
    replace ap:=ap.mono an
    replace a4:=a4.mono an
    replace a5:=a5.mono an
    refine XT (XT (Aa (Rk 0 5 ((tB 16 (decide (aD<((t_.lA.length:Nat):Int))))::(tI 4 aD)::(tP 3 2 0)::Fo) d1 ao fun fe br=>?_)))
    refine wf (wC (decide (aD<((t_.lA.length:Nat):Int))) br (fun bo=>?_) (fun bo=>?_))
    ·
     rw [bo,XW] at y
     refine wp_skip (XT (wp_block (Am (by kernel_rfl) ?_)))
     replace ao:=ao.drew
     refine Ao [] [(a,0),(e,0),(p,0)] [⟨Ie g t_ k d f l m,some 38⟩,⟨UE,some 52⟩,⟨[Wu q x7.length u,Wu s bP.length x,Wu aa aA.length ac],some 52⟩] ?_
     refine Dr [0,1,2,3,4] (dn 4) ((tI 23 aD)::(tS 22 l t_.lA.length m)::(tS 20 aa aA.length ac)::(tI 4 aD)::(tP 3 2 0)::Fo) br ao fun ff d2=>?_
     obtain⟨fI,kF,y⟩:=Av y
     obtain⟨ea,eb,ek⟩:=Ai kF
     obtain⟨au,aw,e7,c2,ej,c5⟩:=ap.get (by decide) ek
     obtain⟨al,am,rfl,eg⟩:=ej
     have b2:=ao.addPlc (b:=au) (o:=aw+Wv aD*1) (cs:=[Wu al fI.length am]) (fun j c hj=>c5 j _ (Ak hj)) rfl (by kernel_rfl) (by kernel_rfl)
     refine Az 5 (aD) [Wu al fI.length am] (fun _ _ _ _ _ h=>h) rfl rfl (rfl) rfl (by decide) (by kernel_rfl) (by kernel_rfl) d2 ao.plOk (by rfl) (by rfl) (by rfl) c2 (by rfl) ea eb (by kernel_rfl) fun e1 (d3:Kn 31 [(a,0),(e,0),(p,0),(au,aw+Wv aD*1)] ((tP 24 3 0)::(tI 23 aD)::(tS 22 l t_.lA.length m)::(tS 20 aa aA.length ac)::(tI 4 aD)::(tP 3 2 0)::Fo) e1)=>?_
     refine Dr [6] (dn 6) ((tS 25 al fI.length am)::(tS 20 aa aA.length ac)::(tI 4 aD)::(tP 3 2 0)::Fo) d3 b2 fun fg d4=>?_
     obtain⟨dY,jC,y⟩:=Av y
     refine Dl 7 fun K hK=>?_
     refine wc [.c (Wu al fI.length am)] d4 b2 (Cb bi b2.has fI eg jC) fun fl bn fz cz cg cp=>?_
     replace be:=be.mono cg
     obtain⟨af,ag,rfl,eh⟩:=cz
     refine⟨.one (.c (Wu af dY.length ag)),rfl,fun em (c7:Kn 31 [(a,0),(e,0),(p,0),(au,aw+Wv aD*1)] ((tS 26 af dY.length ag)::(tS 25 al fI.length am)::(tS 20 aa aA.length ac)::(tI 4 aD)::(tP 3 2 0)::Fo) em)=>hK _ _ cp.plOk ?_⟩
     refine Dl 8 fun K hK=>?_
     refine wS 29 1 [Wu af dY.length ag] c7 cp fun b8 en fm (c8:Kn 31 [(a,0),(e,0),(p,0),(au,aw+Wv aD*1)] ((tS 27 b8 1 1)::(tS 26 af dY.length ag)::(tS 25 al fI.length am)::(tS 20 aa aA.length ac)::(tI 4 aD)::(tP 3 2 0)::Fo) en) bu=>?_
     have bp:Ag bn ([dY]:List (List Int)) ([.slice af dY.length ag]:Wx):=⟨_,_,rfl,((Ad eh):rep bn (dY:List Int) _),rfl⟩
     refine hK _ _ bu.plOk ?_
     obtain⟨fA,jD,y⟩:=Av y
     obtain⟨b4,d5⟩:=Bb jD
     refine Dl 9 fun K hK=>?_
     refine AD 0 24 1 _ (fA.length) _ ([.slice af dY.length ag]:Wx) c8 bu rfl rfl (by decide) rfl (by rfl) (by kernel_rfl) (by rfl) (by rfl) (Ag.len bp) (bu.rowCell (i:=1) rfl) bp.one (by rw [b4]; simp <;> omega) (by rw [b4]; exact d5) (by decide) fun ay a1 cu ep fn c6 (c9:Kn 31 [(a,0),(e,0),(p,0),(au,aw+(aD:Int).toNat*1)] ((tS 28 ay fA.length a1)::(tS 27 b8 1 1)::(tS 26 af dY.length ag)::(tS 25 al fI.length am)::(tS 20 aa aA.length ac)::(tI 4 aD)::(tP 3 2 0)::Fo) ep) bv=>?_
     have c3:Ag bn fA (ax++([.slice af dY.length ag]:Wx)):=by rw [b4]; exact Ag.append be bp
     obtain rfl:cu=0:=Nat.le_zero.1 c6
     refine hK _ _ bv.plOk ?_
     refine Dr [10] (dn 10) ((tP 29 2 2)::(tS 28 ay fA.length a1)::(tI 4 aD)::(tP 3 2 0)::Fo) c9 bv fun er da=>?_
     refine Cq 11 rfl (by kernel_rfl) (by decide) (rfl) (by kernel_rfl) fun K hK=>?_
     refine EZ 2 2 (.c (Wu ay fA.length a1)) [Wu q x7.length u,Wu s bP.length x,Wu ay fA.length a1] da bv fun fp db ch=>hK _ _ ?_
     have dc:Kn 31 [(a,0),(e,0),(p,0),(au,aw+Wv aD*1)] ((tI 4 aD)::(tP 3 2 0)::Fo) er:=db.kp
     refine Em (by kernel_rfl) (Aa (Rk 0 3 ((tI 4 (Wt (aD+1)))::(tP 3 2 0)::Fo) dc ch fun fa dd=>?_))
     refine wf ?_
     exact XY bi ⟨Xc _,XY fA ⟨Wt (aD+1),ay,a1,ax++([.slice af dY.length ag]:Wx),_,_,rfl,(dd.keep [4,3,2,1] (by rfl)).cut 3 (by kernel_rfl),(ch.cutRw 1).cutPl 3 (by kernel_rfl),XU an cg,c3,y⟩⟩
    ·
     rw [bo,XV] at y
     refine wp_exit ?_
     obtain rfl:=XZ y
     exact XY aa ⟨ac,ax,_,_,rfl,br.kp,ao,an,be⟩
  ·
   rintro _ fq ⟨ab,ad,a6,b6,bc,rfl,de,ci,cc,bq⟩
   refine XT (Aa (Rk 0 1 [tA 30 [Wu q x7.length u,Wu s bP.length x,Wu ab z.length ad],tP 2 1 0] de ci fun es dg=>?_))
   refine wl fun K hK=>?_
   refine EZ 1 0 (.agg [Wu q x7.length u,Wu s bP.length x,Wu ab z.length ad]) [Wu q x7.length u,Wu s bP.length x,Wu ab z.length ad] dg ci fun e2 dh cj=>hK _ _ ?_
   have di:Kn 31 [(a,0),(e,0),(p,0)] [tP 2 1 0] es:=dh.kp
   refine wf (wp_ret ?_)
   obtain⟨bm,bs,ei,bw⟩:=cj.settle (i:=0) rfl
   replace a4:=a4.mono (XU cc bs)
   replace a5:=a5.mono (XU cc bs)
   replace bq:=bq.mono bs
   replace bw:Ah ⟨w,h,A6⟩ bm [(a,0),(e,0),(p,0)] [⟨Ie g t_ k d f l m,some 38⟩,⟨[Wu q x7.length u,Wu s bP.length x,Wu ab z.length ad],some 52⟩,⟨[Wu q x7.length u,Wu s bP.length x,Wu ab z.length ad],some 52⟩] [⟨ab,z.length,ad,29,1,a6,(a6:Wx).length⟩] e2:=bw
   have ec:A4 bm ab ad z:=⟨_,bq,ei,cj.rowCap (i:=0) rfl⟩
   obtain rfl:=XZ H
   exact rt (.one (.agg [Wu q x7.length u,Wu s bP.length x,Wu ab z.length ad])) di bw ⟨_,rfl,((Ab (Ad a4) (Ab (Ad a5) (Ad ec))):rep bm ((Ap.mk x7 bP z):Ap) _)⟩
 refine Bc (fun W=>∀ (ar:Nat),∀ (aq:Ww),∀ (av:Nat),∀ a' w',(∃ (b5:Array Value)(bb:Ae),a' = ⟨b5,[]⟩∧Kn 31 [(a,0),(e,0),(ar,0)] ((tP 3 2 0)::(tS 7 aq x7.length av)::(tS 9 d t_.lE.length f)::Fo) b5∧Ah ⟨w,h,A6⟩ bb [(a,0),(e,0),(ar,0)] (K4 g t_ k d f l m) [] w'∧Ae.le h bb∧A4 bb aq av x7)→W [(a,0),(e,0),(ar,0)] (K4 g t_ k d f l m) [2,7,4,3,1,0] a' w') ?_ (fun cq=>?_)
 ·
  intro ar aq av
  rintro _ fr ⟨b5,bb,rfl,dj,ck,cd,b3⟩
  replace ae:=ae.mono cd
  refine Dl 5 fun K hK=>?_
  refine wc [.c (Wu d t_.lE.length f)] dj ck (Cb n ck.has t_.lE ae dS) fun fh e8 fs cv ce bx=>?_
  replace b3:=b3.mono ce
  obtain⟨a7,ba,rfl,ed⟩:=cv
  refine⟨.one (.c (Wu a7 bP.length ba)),rfl,fun et (dk:Kn 31 [(a,0),(e,0),(ar,0)] ((tS 10 a7 bP.length ba)::(tP 3 2 0)::(tS 7 aq x7.length av)::(tS 9 d t_.lE.length f)::Fo) et)=>hK _ _ bx.plOk ?_⟩
  refine Dr [6] [6,5,2,7,4,3,1,0] ((tA 11 [Wu aq x7.length av,Wu a7 bP.length ba,Wu none 0 0])::(tP 3 2 0)::Fo) dk bx fun fb dl=>?_
  refine Ax [6,5,2,7,4,3,1,0] (by kernel_rfl) (by rfl) (cr ar aq av a7 ba _ _ ?_)
  exact XY _ ⟨_,rfl,dl.kp,bx,XU cd ce,b3,ed⟩
 refine D0 2 7 rfl rfl (by kernel_rfl) (by decide) (rfl) (rfl) (fun K hK=>?_) (fun K hK=>?_)
 ·
  refine wc [.c (Wu g t_.tm.length k)] cb b1 (Cb n b1.has t_.tm ak fL) fun fi c0 ft cw a3 bf=>?_
  replace ak:=ak.mono a3
  replace ae:=ae.mono a3
  replace ap:=ap.mono a3
  obtain⟨ai,aj,rfl,bh⟩:=cw
  refine⟨.one (.c (Wu ai x7.length aj)),rfl,fun eu (ca:Kn 31 [(a,0),(e,0),(0,0)] ((tS 7 ai x7.length aj)::(OV d t_ f g k)) eu)=>hK _ _ bf.plOk ?_⟩
  refine D0 5 7 rfl rfl (by kernel_rfl) (by decide) (rfl) (rfl) (fun K hK=>?_) (fun K hK=>?_)
  ·
   refine wc [.c (Wu d t_.lE.length f)] ca bf (Cb n bf.has t_.lE ae dS) fun fj c1 fv cx cf bz=>?_
   replace bh:=bh.mono cf
   obtain⟨az,a2,rfl,ee⟩:=cx
   refine⟨.one (.c (Wu az bP.length a2)),rfl,fun ev (dp:Kn 31 [(a,0),(e,0),(0,0)] ((tS 10 az bP.length a2)::(tS 7 ai x7.length aj)::(OV d t_ f g k)) ev)=>hK _ _ bz.plOk ?_⟩
   refine Dr [6] [6,5,2,4,3,1,0] ((tA 11 [Wu ai x7.length aj,Wu az bP.length a2,Wu none 0 0])::Fo) dp bz fun fc dq=>?_
   refine Dl 7 fun K hK=>?_
   refine JF 2 UE dq bz fun a8 ew e3 (dr:Kn 31 [(a,0),(e,0),(a8,0)] ((tP 3 2 0)::(tA 11 [Wu ai x7.length aj,Wu az bP.length a2,Wu none 0 0])::Fo) ew) (cl:Ah ⟨w,h,A6⟩ c1 [(a,0),(e,0),(a8,0)] (K4 g t_ k d f l m) [] e3)=>hK _ _ (Ay.unset 2 rfl (by kernel_rfl) cl.plOk) (Cf (e':=[(a,0),(e,0),(a8,0)]) (pl':=(K4 g t_ k d f l m)) (fun _ hp=>hp.unset 2 rfl (by kernel_rfl)) ?_)
   refine Ax [6,5,2,7,4,3,1,0] (by kernel_rfl) (by rfl) (cr a8 ai aj az a2 _ _ ?_)
   exact XY _ ⟨_,rfl,dr.kp,cl,XU a3 cf,bh,ee⟩
  ·
   refine JF 2 UE ca bf fun a9 ex e4 (ds:Kn 31 [(a,0),(e,0),(a9,0)] ((tP 3 2 0)::(tS 7 ai x7.length aj)::(OV d t_ f g k)) ex) (cm:Ah ⟨w,h,A6⟩ c0 [(a,0),(e,0),(a9,0)] (K4 g t_ k d f l m) [] e4)=>hK _ _ (Ay.unset 2 rfl (by kernel_rfl) cm.plOk) (Cf (e':=[(a,0),(e,0),(a9,0)]) (pl':=(K4 g t_ k d f l m)) (fun _ hp=>hp.unset 2 rfl (by kernel_rfl)) ?_)
   refine Ax [2,7,4,3,1,0] (by kernel_rfl) (by rfl) (cq a9 ai aj _ _ ?_)
   exact XY _ ⟨_,rfl,ds.kp,cm,a3,bh⟩
 ·
  refine JF 2 UE cb b1 fun a0 ey e5 (du:Kn 31 [(a,0),(e,0),(a0,0)] ((tP 3 2 0)::(OV d t_ f g k)) ey) (b0:Ah ⟨w,h,A6⟩ h [(a,0),(e,0),(a0,0)] (K4 g t_ k d f l m) [] e5)=>hK _ _ (Ay.unset 2 rfl (by kernel_rfl) b0.plOk) (Cf (e':=[(a,0),(e,0),(a0,0)]) (pl':=(K4 g t_ k d f l m)) (fun _ hp=>hp.unset 2 rfl (by kernel_rfl)) ?_)
  refine Dl 2 fun K hK=>?_
  refine wc [.c (Wu g t_.tm.length k)] du b0 (Cb n b0.has t_.tm ak fL) fun fk e9 fw cy d6 cn=>?_
  obtain⟨bk,bl,rfl,ef⟩:=cy
  refine⟨.one (.c (Wu bk x7.length bl)),rfl,fun e0 (dv:Kn 31 [(a,0),(e,0),(a0,0)] ((tS 7 bk x7.length bl)::(tP 3 2 0)::(OV d t_ f g k)) e0)=>hK _ _ cn.plOk ?_⟩
  refine Ax [2,7,4,3,1,0] (by kernel_rfl) (by rfl) (cq a0 bk bl _ _ ?_)
  exact XY _ ⟨_,rfl,dv.kp,cn,d6,ef⟩
abbrev K5 (g)(t_:Ap)(k d f l m):=([⟨Ie g t_ k d f l m,some 52⟩,⟨UE,some 38⟩,⟨UE,some 38⟩]:List Db)
theorem Ng (n:Nat) {h:Ae} {w:World} (hh:Dk h w) (t_:Ap) {cI:Wx} (dF:rep h t_ cI) {r:Ap} (H:HV n t_=some r) :
  Calls Tryz.prog 28 #[.agg cI.toArray] w (Dq (fun h v=>∃ cs,v=.agg cs.toArray∧rep h r cs) h w):=by
 obtain⟨_,_,rfl,⟨g,k,rfl,ak⟩,⟨_,_,rfl,⟨d,f,rfl,ae⟩,⟨l,m,rfl,ap⟩⟩⟩:=dF
 refine enter 31 [.agg (Ie g t_ k d f l m)] Tryz.func28 rfl rfl rfl rfl fun t hk=>?_
 have hm:=Ah.begin h w hh
 unfold HV at H
 refine XT (Aa (wl fun K hK=>?_))
 refine wb (.agg (Ie g t_ k d f l m)) hk hm fun a eo fo (df:Kn 31 [(a,0)] [tP 1 0 0,tA 0 (Ie g t_ k d f l m)] eo) d7=>hK _ _ ?_
 refine wl fun K hK=>?_
 refine wa UE df d7 fun e ct fu (dm:Kn 31 [(a,0),(e,0)] [tP 2 1 0,tP 1 0 0,tA 0 (Ie g t_ k d f l m)] ct) bg=>hK _ _ ?_
 have dt:Kn 31 [(a,0),(e,0)] Fo ct:=dm.kp
 refine wf (XT (Am (by kernel_rfl) ?_))
 replace bg:=bg.drew
 refine Ao [] [(a,0),(e,0)] [⟨Ie g t_ k d f l m,some 52⟩,⟨UE,some 38⟩] ?_
 refine Dr [0,1,3,4] [4,3,1,0] (OV d t_ f g k) dt bg fun ez dw=>?_
 obtain⟨x7,fL,H⟩:=Av H
 obtain⟨bP,dS,H⟩:=Av H
 have cb:Kn 31 [(a,0),(e,0),(0,0)] (OV d t_ f g k) ez:=dw.push (0,0) (by kernel_rfl)
 have b1:=bg.addPlc (b:=0) (o:=0) (cs:=[]) (fun j c hj=>by simp at hj) rfl (by kernel_rfl) (by kernel_rfl)
 refine Cf (e':=[(a,0),(e,0),(0,0)]) (pl':=[⟨Ie g t_ k d f l m,some 52⟩,⟨UE,some 38⟩,⟨[],none⟩]) (fun _ hp=>hp.pop (Nat.le_of_eq rfl) (by kernel_rfl)) ?_
 refine Bc (fun W=>∀ (p:Nat),∀ (q:Ww),∀ (u:Nat),∀ (s:Ww),∀ (x:Nat),∀ a' w',(∃ (bj:Array Value)(ah:Ae),a' = ⟨bj,[]⟩∧Kn 31 [(a,0),(e,0),(p,0)] ((tP 3 2 0)::(tA 11 [Wu q x7.length u,Wu s bP.length x,Wu none 0 0])::Fo) bj∧Ah ⟨w,h,A6⟩ ah [(a,0),(e,0),(p,0)] (K5 g t_ k d f l m) [] w'∧Ae.le h ah∧A4 ah q u x7∧A4 ah s x bP)→W [(a,0),(e,0),(p,0)] (K5 g t_ k d f l m) [6,5,2,7,4,3,1,0] a' w') ?_ (fun cr=>?_)
 ·
  intro p q u s x
  rintro _ fx ⟨bj,ah,rfl,dx,d8,bt,a4,a5⟩
  replace ak:=ak.mono bt
  replace ae:=ae.mono bt
  replace ap:=ap.mono bt
  refine Cq 8 rfl (by kernel_rfl) (by decide) (rfl) (by kernel_rfl) fun K hK=>?_
  refine EZ 2 0 (.agg [Wu q x7.length u,Wu s bP.length x,Wu none 0 0]) [Wu q x7.length u,Wu s bP.length x,Wu none 0 0] dx d8 fun e6 dy co=>hK _ _ ?_
  refine Ao [] [(a,0),(e,0),(p,0)] [⟨Ie g t_ k d f l m,some 52⟩,⟨UE,some 38⟩,⟨[Wu q x7.length u,Wu s bP.length x,Wu none 0 0],some 38⟩] ?_
  have dz:Kn 31 [(a,0),(e,0),(p,0)] ((tP 3 2 0)::Fo) bj:=dy.kp
  refine A2 (by kernel_rfl) (XT (XT (Aa (Rk 0 1 ((tI 4 0)::(tP 3 2 0)::Fo) dz co fun fd d0=>?_))))
  refine wf ?_
  have d9:Ah ⟨w,h,A6⟩ ah [(a,0),(e,0),(p,0)] [⟨Ie g t_ k d f l m,some 52⟩,⟨UE,some 38⟩,⟨[Wu q x7.length u,Wu s bP.length x,Wu none 0 0],some 38⟩] [⟨none,0,0,29,1,[],0⟩] e6:=co.nilRow 29 1
  have c4:Ag ah ([]:List (List Int)) []:=Ag.nil
  obtain⟨z,b9,H⟩:=Av H
  refine A0 (fun a' w'=>∃ (ab:Ww)(ad:Nat)(a6:Wx)(b6:Array Value)(bc:Ae),a' = ⟨b6,[]⟩∧Kn 31 [(a,0),(e,0),(p,0)] [tP 3 2 0,tP 2 1 0] b6∧Ah ⟨w,h,A6⟩ bc [(a,0),(e,0),(p,0)] [⟨Ie g t_ k d f l m,some 52⟩,⟨UE,some 38⟩,⟨[Wu q x7.length u,Wu s bP.length x,Wu ab z.length ad],some 38⟩] [⟨ab,z.length,ad,29,1,a6,0⟩] w'∧Ae.le ah bc∧Ag bc z a6) ?_ ?_
  ·
   refine wp_block ?_
   refine Au (fun el a' w'=>∃ (aA:List (List Int))(aD:Int)(aa:Ww)(ac:Nat)(ax:Wx)(b7:Array Value)(bd:Ae),a' = ⟨b7,[]⟩∧Kn 31 [(a,0),(e,0),(p,0)] ((tI 4 aD)::(tP 3 2 0)::Fo) b7∧Ah ⟨w,h,A6⟩ bd [(a,0),(e,0),(p,0)] [⟨Ie g t_ k d f l m,some 52⟩,⟨UE,some 38⟩,⟨[Wu q x7.length u,Wu s bP.length x,Wu aa aA.length ac],some 38⟩] [⟨aa,aA.length,ac,29,1,ax,0⟩] w'∧Ae.le ah bd∧Ag bd aA ax∧EE el t_ aA aD=some z) n ?_ ?_
   ·
    exact XY ([]:List (List Int)) ⟨0,none,0,[],_,_,rfl,d0.kp,d9,Ae.le_refl _,c4,b9⟩
   ·
    rintro bi _ fy ⟨aA,aD,aa,ac,ax,b7,bd,rfl,d1,ao,an,be,y⟩
    clear b9
    obtain _ | bi:=bi
    ·
     rw [EE] at y; cases y
    rw [EE] at y
    replace ak:=ak.mono an
    replace ae:=ae.mono an
    replace ap:=ap.mono an
    replace a4:=a4.mono an
    replace a5:=a5.mono an
    refine XT (XT (Aa (Rk 0 5 ((tB 16 (decide (aD<((t_.lA.length:Nat):Int))))::(tI 4 aD)::(tP 3 2 0)::Fo) d1 ao fun fe br=>?_)))
    refine wf (wC (decide (aD<((t_.lA.length:Nat):Int))) br (fun bo=>?_) (fun bo=>?_))
    ·
     rw [bo,XW] at y
     refine wp_skip (XT (wp_block (Am (by kernel_rfl) ?_)))
     replace ao:=ao.drew
     refine Ao [] [(a,0),(e,0),(p,0)] [⟨Ie g t_ k d f l m,some 52⟩,⟨UE,some 38⟩,⟨[Wu q x7.length u,Wu s bP.length x,Wu aa aA.length ac],some 38⟩] ?_
     refine Dr [0,1,2,3,4] (dn 4) ((tI 23 aD)::(tS 22 l t_.lA.length m)::(tS 20 aa aA.length ac)::(tI 4 aD)::(tP 3 2 0)::Fo) br ao fun ff d2=>?_
     obtain⟨fI,kF,y⟩:=Av y
     obtain⟨ea,eb,ek⟩:=Ai kF
     obtain⟨au,aw,e7,c2,ej,c5⟩:=ap.get (by decide) ek
     obtain⟨al,am,rfl,eg⟩:=ej
     have b2:=ao.addPlc (b:=au) (o:=aw+Wv aD*1) (cs:=[Wu al fI.length am]) (fun j c hj=>c5 j _ (Ak hj)) rfl (by kernel_rfl) (by kernel_rfl)
     refine Az 5 (aD) [Wu al fI.length am] (fun _ _ _ _ _ h=>h) rfl rfl (rfl) rfl (by decide) (by kernel_rfl) (by kernel_rfl) d2 ao.plOk (by rfl) (by rfl) (by rfl) c2 (by rfl) ea eb (by kernel_rfl) fun e1 (d3:Kn 31 [(a,0),(e,0),(p,0),(au,aw+Wv aD*1)] ((tP 24 3 0)::(tI 23 aD)::(tS 22 l t_.lA.length m)::(tS 20 aa aA.length ac)::(tI 4 aD)::(tP 3 2 0)::Fo) e1)=>?_
     refine Dr [6] (dn 6) ((tS 25 al fI.length am)::(tS 20 aa aA.length ac)::(tI 4 aD)::(tP 3 2 0)::Fo) d3 b2 fun fg d4=>?_
     obtain⟨dY,jC,y⟩:=Av y
     refine Dl 7 fun K hK=>?_
     refine wc [.c (Wu al fI.length am)] d4 b2 (Cb bi b2.has fI eg jC) fun fl bn fz cz cg cp=>?_
     replace be:=be.mono cg
     obtain⟨af,ag,rfl,eh⟩:=cz
     refine⟨.one (.c (Wu af dY.length ag)),rfl,fun em (c7:Kn 31 [(a,0),(e,0),(p,0),(au,aw+Wv aD*1)] ((tS 26 af dY.length ag)::(tS 25 al fI.length am)::(tS 20 aa aA.length ac)::(tI 4 aD)::(tP 3 2 0)::Fo) em)=>hK _ _ cp.plOk ?_⟩
     refine Dl 8 fun K hK=>?_
     refine wS 29 1 [Wu af dY.length ag] c7 cp fun b8 en fm (c8:Kn 31 [(a,0),(e,0),(p,0),(au,aw+Wv aD*1)] ((tS 27 b8 1 1)::(tS 26 af dY.length ag)::(tS 25 al fI.length am)::(tS 20 aa aA.length ac)::(tI 4 aD)::(tP 3 2 0)::Fo) en) bu=>?_
     have bp:Ag bn ([dY]:List (List Int)) ([.slice af dY.length ag]:Wx):=⟨_,_,rfl,((Ad eh):rep bn (dY:List Int) _),rfl⟩
     refine hK _ _ bu.plOk ?_
     obtain⟨fA,jD,y⟩:=Av y
     obtain⟨b4,d5⟩:=Bb jD
     refine Dl 9 fun K hK=>?_
     refine AD 0 24 1 _ (fA.length) _ ([.slice af dY.length ag]:Wx) c8 bu rfl rfl (by decide) rfl (by rfl) (by kernel_rfl) (by rfl) (by rfl) (Ag.len bp) (bu.rowCell (i:=1) rfl) bp.one (by rw [b4]; simp <;> omega) (by rw [b4]; exact d5) (by decide) fun ay a1 cu ep fn c6 (c9:Kn 31 [(a,0),(e,0),(p,0),(au,aw+(aD:Int).toNat*1)] ((tS 28 ay fA.length a1)::(tS 27 b8 1 1)::(tS 26 af dY.length ag)::(tS 25 al fI.length am)::(tS 20 aa aA.length ac)::(tI 4 aD)::(tP 3 2 0)::Fo) ep) bv=>?_
     have c3:Ag bn fA (ax++([.slice af dY.length ag]:Wx)):=by rw [b4]; exact Ag.append be bp
     obtain rfl:cu=0:=Nat.le_zero.1 c6
     refine hK _ _ bv.plOk ?_
     refine Dr [10] (dn 10) ((tP 29 2 2)::(tS 28 ay fA.length a1)::(tI 4 aD)::(tP 3 2 0)::Fo) c9 bv fun er da=>?_
     refine Cq 11 rfl (by kernel_rfl) (by decide) (rfl) (by kernel_rfl) fun K hK=>?_
     refine EZ 2 2 (.c (Wu ay fA.length a1)) [Wu q x7.length u,Wu s bP.length x,Wu ay fA.length a1] da bv fun fp db ch=>hK _ _ ?_
     have dc:Kn 31 [(a,0),(e,0),(p,0),(au,aw+Wv aD*1)] ((tI 4 aD)::(tP 3 2 0)::Fo) er:=db.kp
     refine Em (by kernel_rfl) (Aa (Rk 0 3 ((tI 4 (Wt (aD+1)))::(tP 3 2 0)::Fo) dc ch fun fa dd=>?_))
     refine wf ?_
     exact XY bi ⟨Xc _,XY fA ⟨Wt (aD+1),ay,a1,ax++([.slice af dY.length ag]:Wx),_,_,rfl,(dd.keep [4,3,2,1] (by rfl)).cut 3 (by kernel_rfl),(ch.cutRw 1).cutPl 3 (by kernel_rfl),XU an cg,c3,y⟩⟩
    ·
     rw [bo,XV] at y
     refine wp_exit ?_
     obtain rfl:=XZ y
     exact XY aa ⟨ac,ax,_,_,rfl,br.kp,ao,an,be⟩
  ·
   rintro _ fq ⟨ab,ad,a6,b6,bc,rfl,de,ci,cc,bq⟩
   refine XT (Aa (Rk 0 1 [tA 30 [Wu q x7.length u,Wu s bP.length x,Wu ab z.length ad],tP 2 1 0] de ci fun es dg=>?_))
   refine wl fun K hK=>?_
   refine EZ 1 0 (.agg [Wu q x7.length u,Wu s bP.length x,Wu ab z.length ad]) [Wu q x7.length u,Wu s bP.length x,Wu ab z.length ad] dg ci fun e2 dh cj=>hK _ _ ?_
   have di:Kn 31 [(a,0),(e,0),(p,0)] [tP 2 1 0] es:=dh.kp
   refine wf (wp_ret ?_)
   obtain⟨bm,bs,ei,bw⟩:=cj.settle (i:=0) rfl
   replace a4:=a4.mono (XU cc bs)
   replace a5:=a5.mono (XU cc bs)
   replace bq:=bq.mono bs
   replace bw:Ah ⟨w,h,A6⟩ bm [(a,0),(e,0),(p,0)] [⟨Ie g t_ k d f l m,some 52⟩,⟨[Wu q x7.length u,Wu s bP.length x,Wu ab z.length ad],some 38⟩,⟨[Wu q x7.length u,Wu s bP.length x,Wu ab z.length ad],some 38⟩] [⟨ab,z.length,ad,29,1,a6,(a6:Wx).length⟩] e2:=bw
   have ec:A4 bm ab ad z:=⟨_,bq,ei,cj.rowCap (i:=0) rfl⟩
   obtain rfl:=XZ H
   exact rt (.one (.agg [Wu q x7.length u,Wu s bP.length x,Wu ab z.length ad])) di bw ⟨_,rfl,((Ab (Ad a4) (Ab (Ad a5) (Ad ec))):rep bm ((Ap.mk x7 bP z):Ap) _)⟩
 refine Bc (fun W=>∀ (ar:Nat),∀ (aq:Ww),∀ (av:Nat),∀ a' w',(∃ (b5:Array Value)(bb:Ae),a' = ⟨b5,[]⟩∧Kn 31 [(a,0),(e,0),(ar,0)] ((tP 3 2 0)::(tS 7 aq x7.length av)::(tS 9 d t_.lE.length f)::Fo) b5∧Ah ⟨w,h,A6⟩ bb [(a,0),(e,0),(ar,0)] (K5 g t_ k d f l m) [] w'∧Ae.le h bb∧A4 bb aq av x7)→W [(a,0),(e,0),(ar,0)] (K5 g t_ k d f l m) [2,7,4,3,1,0] a' w') ?_ (fun cq=>?_)
 ·
  intro ar aq av
  rintro _ fr ⟨b5,bb,rfl,dj,ck,cd,b3⟩
  replace ae:=ae.mono cd
  refine Dl 5 fun K hK=>?_
  refine wc [.c (Wu d t_.lE.length f)] dj ck (Cb n ck.has t_.lE ae dS) fun fh e8 fs cv ce bx=>?_
  replace b3:=b3.mono ce
  obtain⟨a7,ba,rfl,ed⟩:=cv
  refine⟨.one (.c (Wu a7 bP.length ba)),rfl,fun et (dk:Kn 31 [(a,0),(e,0),(ar,0)] ((tS 10 a7 bP.length ba)::(tP 3 2 0)::(tS 7 aq x7.length av)::(tS 9 d t_.lE.length f)::Fo) et)=>hK _ _ bx.plOk ?_⟩
  refine Dr [6] [6,5,2,7,4,3,1,0] ((tA 11 [Wu aq x7.length av,Wu a7 bP.length ba,Wu none 0 0])::(tP 3 2 0)::Fo) dk bx fun fb dl=>?_
  refine Ax [6,5,2,7,4,3,1,0] (by kernel_rfl) (by rfl) (cr ar aq av a7 ba _ _ ?_)
  exact XY _ ⟨_,rfl,dl.kp,bx,XU cd ce,b3,ed⟩
 refine D0 2 7 rfl rfl (by kernel_rfl) (by decide) (rfl) (rfl) (fun K hK=>?_) (fun K hK=>?_)
 ·
  refine wc [.c (Wu g t_.tm.length k)] cb b1 (Cb n b1.has t_.tm ak fL) fun fi c0 ft cw a3 bf=>?_
  replace ak:=ak.mono a3
  replace ae:=ae.mono a3
  replace ap:=ap.mono a3
  obtain⟨ai,aj,rfl,bh⟩:=cw
  refine⟨.one (.c (Wu ai x7.length aj)),rfl,fun eu (ca:Kn 31 [(a,0),(e,0),(0,0)] ((tS 7 ai x7.length aj)::(OV d t_ f g k)) eu)=>hK _ _ bf.plOk ?_⟩
  refine D0 5 7 rfl rfl (by kernel_rfl) (by decide) (rfl) (rfl) (fun K hK=>?_) (fun K hK=>?_)
  ·
   refine wc [.c (Wu d t_.lE.length f)] ca bf (Cb n bf.has t_.lE ae dS) fun fj c1 fv cx cf bz=>?_
   replace bh:=bh.mono cf
   obtain⟨az,a2,rfl,ee⟩:=cx
   refine⟨.one (.c (Wu az bP.length a2)),rfl,fun ev (dp:Kn 31 [(a,0),(e,0),(0,0)] ((tS 10 az bP.length a2)::(tS 7 ai x7.length aj)::(OV d t_ f g k)) ev)=>hK _ _ bz.plOk ?_⟩
   refine Dr [6] [6,5,2,4,3,1,0] ((tA 11 [Wu ai x7.length aj,Wu az bP.length a2,Wu none 0 0])::Fo) dp bz fun fc dq=>?_
   refine Dl 7 fun K hK=>?_
   refine JF 2 UE dq bz fun a8 ew e3 (dr:Kn 31 [(a,0),(e,0),(a8,0)] ((tP 3 2 0)::(tA 11 [Wu ai x7.length aj,Wu az bP.length a2,Wu none 0 0])::Fo) ew) (cl:Ah ⟨w,h,A6⟩ c1 [(a,0),(e,0),(a8,0)] (K5 g t_ k d f l m) [] e3)=>hK _ _ (Ay.unset 2 rfl (by kernel_rfl) cl.plOk) (Cf (e':=[(a,0),(e,0),(a8,0)]) (pl':=(K5 g t_ k d f l m)) (fun _ hp=>hp.unset 2 rfl (by kernel_rfl)) ?_)
   refine Ax [6,5,2,7,4,3,1,0] (by kernel_rfl) (by rfl) (cr a8 ai aj az a2 _ _ ?_)
   exact XY _ ⟨_,rfl,dr.kp,cl,XU a3 cf,bh,ee⟩
  ·
   refine JF 2 UE ca bf fun a9 ex e4 (ds:Kn 31 [(a,0),(e,0),(a9,0)] ((tP 3 2 0)::(tS 7 ai x7.length aj)::(OV d t_ f g k)) ex) (cm:Ah ⟨w,h,A6⟩ c0 [(a,0),(e,0),(a9,0)] (K5 g t_ k d f l m) [] e4)=>hK _ _ (Ay.unset 2 rfl (by kernel_rfl) cm.plOk) (Cf (e':=[(a,0),(e,0),(a9,0)]) (pl':=(K5 g t_ k d f l m)) (fun _ hp=>hp.unset 2 rfl (by kernel_rfl)) ?_)
   refine Ax [2,7,4,3,1,0] (by kernel_rfl) (by rfl) (cq a9 ai aj _ _ ?_)
   exact XY _ ⟨_,rfl,ds.kp,cm,a3,bh⟩
 ·
  refine JF 2 UE cb b1 fun a0 ey e5 (du:Kn 31 [(a,0),(e,0),(a0,0)] ((tP 3 2 0)::(OV d t_ f g k)) ey) (b0:Ah ⟨w,h,A6⟩ h [(a,0),(e,0),(a0,0)] (K5 g t_ k d f l m) [] e5)=>hK _ _ (Ay.unset 2 rfl (by kernel_rfl) b0.plOk) (Cf (e':=[(a,0),(e,0),(a0,0)]) (pl':=(K5 g t_ k d f l m)) (fun _ hp=>hp.unset 2 rfl (by kernel_rfl)) ?_)
  refine Dl 2 fun K hK=>?_
  refine wc [.c (Wu g t_.tm.length k)] du b0 (Cb n b0.has t_.tm ak fL) fun fk e9 fw cy d6 cn=>?_
  obtain⟨bk,bl,rfl,ef⟩:=cy
  refine⟨.one (.c (Wu bk x7.length bl)),rfl,fun e0 (dv:Kn 31 [(a,0),(e,0),(a0,0)] ((tS 7 bk x7.length bl)::(tP 3 2 0)::(OV d t_ f g k)) e0)=>hK _ _ cn.plOk ?_⟩
  refine Ax [2,7,4,3,1,0] (by kernel_rfl) (by rfl) (cq a0 bk bl _ _ ?_)
  exact XY _ ⟨_,rfl,dv.kp,cn,d6,ef⟩
end Go.Proofs.YtokchpjijlebiaaGreat
