/- Each call computes its plain function. -/
import Derived.Test.YtokchpjijlebiaaGreatProg
import Derived.Test.YtokchpjijlebiaaGreatRQWD
set_option linter.all false
namespace Go.Proofs.YtokchpjijlebiaaGreat
open Go Go.RowKit
set_option maxRecDepth 100000
set_option maxHeartbeats 4000000
open Rep (rep)
open KRep (kv)
open VRep (rv)
abbrev FQ (a d g u)(z:Nat)(aG:Int):=([(a,0),(d,0),(g,0),(u,z+Wv aG*3)]:Bh)
abbrev DB (aG aE)(words:List (IK .u16))(aF):=([tI 6 aG,tP 5 2 0,tP 4 1 0,tP 2 0 0,tS 1 aE words.length aF]:TM)
abbrev Nh (aG:Int)(aE)(words:List (IK .u16))(aF e)(aD:List Int)(f)(eN:CW)(k)(aA:List Int)(l):=((tI 74 (Wt ((Wt (9*aG))+8)))::(tS 71 aE words.length aF)::(tP 69 0 1)::(tS 68 e aD.length f)::(tI 63 (Wt ((Wt (9*aG))+7)))::(tS 60 aE words.length aF)::(tA 59 (VX eN))::(tS 53 k aA.length l)::(DB aG aE words aF):TM)
abbrev Td (r_:Af)(av)(fJ:List Int)(aw)(aG:Int)(aE)(words:List (IK .u16))(aF e)(aD:List Int)(f):=((tA 70 (UJ r_))::(tP 78 2 0)::(tS 66 av fJ.length aw)::(tI 74 (Wt ((Wt (9*aG))+8)))::(tS 71 aE words.length aF)::(tS 68 e aD.length f)::(DB aG aE words aF):TM)
abbrev Te (aG:Int)(aB:Int)(aE)(words:List (IK .u16))(aF)(aV:Rg)(ay)(aC:List Int)(az):=((tI 37 (Wt ((Wt (9*aG))+aB)))::(tS 33 aE words.length aF)::(tA 32 (OT aV))::(tS 27 ay aC.length az)::(tI 8 aB)::(DB aG aE words aF):TM)
abbrev Tf (aG:Int)(aE)(words:List (IK .u16))(aF e)(aD:List Int)(f k)(aA:List Int)(l):=((tI 74 (Wt ((Wt (9*aG))+8)))::(tS 71 aE words.length aF)::(tS 68 e aD.length f)::(tS 53 k aA.length l)::(DB aG aE words aF):TM)
theorem P0 (n:Nat) {h:Ae} {w:World} (hh:Dk h w) (r_:Af) {aP:Wx} (aW:rep h r_ aP) (words:List (IK .u16)) {aE:Ww} {aF:Nat} (aY:A4 h aE aF words) {r:Ap} (H:Hk n r_ words=some r) :
  Calls Tryz.prog 8 #[.agg aP.toArray,.slice aE words.length aF] w (Dq (fun h v=>∃ cs,v=.agg cs.toArray∧rep h r cs) h w):=by
 obtain⟨_,_,rfl,⟨q,x,rfl,bd⟩,⟨_,_,rfl,⟨_,_,rfl,rfl,rfl⟩,⟨_,_,rfl,⟨s,y,rfl,be⟩,⟨_,_,rfl,⟨aa,ac,rfl,bo⟩,⟨_,_,rfl,rfl,⟨_,_,rfl,rfl,⟨_,_,rfl,rfl,rfl⟩⟩⟩⟩⟩⟩⟩:=aW
 refine enter 81 [.agg (UB q r_ x s y aa ac),.c (Wu aE words.length aF)] Tryz.func8 rfl rfl rfl rfl fun t hk=>?_
 have hm:=Ah.begin h w hh
 unfold Hk at H
 refine XT (Aa (wl fun K hK=>?_))
 refine wb (.agg (UB q r_ x s y aa ac)) hk hm fun a h7 jv (fs:Kn 81 [(a,0)] [tP 2 0 0,tA 0 (UB q r_ x s y aa ac),tS 1 aE words.length aF] h7) he=>hK _ _ ?_
 refine wl fun K hK=>?_
 refine wa UE fs he fun d eu j0 (f1:Kn 81 [(a,0),(d,0)] [tP 4 1 0,tP 2 0 0,tA 0 (UB q r_ x s y aa ac),tS 1 aE words.length aF] eu) hf=>hK _ _ ?_
 have f6:Kn 81 [(a,0),(d,0)] [tP 4 1 0,tP 2 0 0,tS 1 aE words.length aF] eu:=f1.kp
 refine wf (XT (Aa (wl fun K hK=>?_)))
 refine wa UE f6 hf fun g ii dv (gb:Kn 81 [(a,0),(d,0),(g,0)] [tP 5 2 0,tP 4 1 0,tP 2 0 0,tS 1 aE words.length aF] ii) ei=>hK _ _ ?_
 refine wf (XT (XT (Aa (Rk 0 1 [tI 6 0,tP 5 2 0,tP 4 1 0,tP 2 0 0,tS 1 aE words.length aF] gb ei fun jj gj=>?_))))
 refine wf ?_
 have hl:Ah ⟨w,h,A6⟩ h [(a,0),(d,0),(g,0)] [⟨UB q r_ x s y aa ac,some 28⟩,⟨UE,some 38⟩,⟨UE,some 38⟩] [⟨none,0,0,3,1,[],0⟩] dv:=ei.nilRow 3 1
 have fc:Ag h ([]:List Int) []:=Ag.nil
 have ho:Ah ⟨w,h,A6⟩ h [(a,0),(d,0),(g,0)] [⟨UB q r_ x s y aa ac,some 28⟩,⟨UE,some 38⟩,⟨UE,some 38⟩] [⟨none,0,0,3,1,[],0⟩,⟨none,0,0,3,1,[],0⟩] dv:=hl.nilRow 3 1
 have fe:Ag h ([]:List Int) []:=Ag.nil
 have hp:Ah ⟨w,h,A6⟩ h [(a,0),(d,0),(g,0)] [⟨UB q r_ x s y aa ac,some 28⟩,⟨UE,some 38⟩,⟨UE,some 38⟩] [⟨none,0,0,3,1,[],0⟩,⟨none,0,0,3,1,[],0⟩,⟨none,0,0,29,1,[],0⟩] dv:=ho.nilRow 29 1
 have fg:Ag h ([]:List (List Int)) []:=Ag.nil
 obtain⟨m,d2,H⟩:=Av H
 refine A0 (fun a' w'=>∃ (ah:Ww)(ak:Nat)(a7:Wx)(ai:Ww)(al:Nat)(ba:Wx)(aj:Ww)(am:Nat)(bg:Wx)(dq:Array Value)(bk:Ae),a' = ⟨dq,[]⟩∧Kn 81 [(a,0),(d,0),(g,0)] [tP 5 2 0,tP 4 1 0] dq∧Ah ⟨w,h,A6⟩ bk [(a,0),(d,0),(g,0)] [⟨UB q r_ x s y aa ac,some 28⟩,⟨UE,some 38⟩,⟨Pb ah m ak ai al aj am,some 38⟩] [⟨ah,m.1.length,ak,3,1,a7,0⟩,⟨ai,m.2.1.length,al,3,1,ba,0⟩,⟨aj,m.2.2.length,am,29,1,bg,0⟩] w'∧Ae.le h bk∧Ag bk m.1 a7∧Ag bk m.2.1 ba∧Ag bk m.2.2 bg) ?_ ?_
 ·
  refine wp_block ?_
  refine Au (fun h5 a' w'=>∃ (aA:List Int)(aD:List Int)(aM:List (List Int))(aG:Int)(k:Ww)(l:Nat)(an:Wx)(e:Ww)(f:Nat)(ao:Wx)(aq:Ww)(ar:Nat)(ap:Wx)(dr:Array Value)(a2:Ae),a' = ⟨dr,[]⟩∧Kn 81 [(a,0),(d,0),(g,0)] (DB aG aE words aF) dr∧Ah ⟨w,h,A6⟩ a2 [(a,0),(d,0),(g,0)] [⟨UB q r_ x s y aa ac,some 28⟩,⟨UE,some 38⟩,⟨[Wu k aA.length l,Wu e aD.length f,Wu aq aM.length ar],some 38⟩] [⟨k,aA.length,l,3,1,an,0⟩,⟨e,aD.length,f,3,1,ao,0⟩,⟨aq,aM.length,ar,29,1,ap,0⟩] w'∧Ae.le h a2∧Ag a2 aA an∧Ag a2 aD ao∧Ag a2 aM ap∧Da h5 r_ words aA aD aM aG=some m) n ?_ ?_
  ·
   exact XY ([]:List Int) ⟨([]:List Int),([]:List (List Int)),0,none,0,[],none,0,[],none,0,[],_,_,rfl,gj.kp,hp,Ae.le_refl _,fc,fe,fg,d2⟩
  ·
   rintro a9 _ i2 ⟨aA,aD,aM,aG,k,l,an,e,f,ao,aq,ar,ap,dr,a2,rfl,g2,b1,bc,a1,a4,bl,ag⟩
   clear d2
   obtain _ | a9:=a9
   ·
    rw [Da] at ag; cases ag
   rw [Da] at ag
   replace bd:=bd.mono bc
   replace be:=be.mono bc
   replace bo:=bo.mono bc
   replace aY:=aY.mono bc
   refine XT (XT (Aa (Rk 0 9 ((tB 17 (decide (aG<(Wt (((r_.lB.length:Nat):Int)+((r_.lC.length:Nat):Int))))))::(DB aG aE words aF)) g2 b1 fun jo c3=>?_)))
   refine wf (wC (decide (aG<(Wt (((r_.lB.length:Nat):Int)+((r_.lC.length:Nat):Int))))) c3 (fun cr=>?_) (fun cr=>?_))
   ·
    rw [cr,XW] at ag
    refine wp_skip (XT (wp_block (XT (Aa (Rk 0 1 ((tS 7 none 0 0)::(DB aG aE words aF)) c3 b1 fun jp g3=>?_)))))
    refine wf (XT (XT (Aa (Rk 0 1 ((tI 8 0)::(tS 7 none 0 0)::(DB aG aE words aF)) g3 b1 fun jq g4=>?_))))
    refine wf ?_
    have hq:Ah ⟨w,h,A6⟩ a2 [(a,0),(d,0),(g,0)] [⟨UB q r_ x s y aa ac,some 28⟩,⟨UE,some 38⟩,⟨[Wu k aA.length l,Wu e aD.length f,Wu aq aM.length ar],some 38⟩] [⟨k,aA.length,l,3,1,an,0⟩,⟨e,aD.length,f,3,1,ao,0⟩,⟨aq,aM.length,ar,29,1,ap,0⟩,⟨none,0,0,3,1,[],0⟩] i2:=b1.nilRow 3 1
    have fh:Ag a2 ([]:List Int) []:=Ag.nil
    obtain⟨p,d3,ag⟩:=Av ag
    refine A0 (fun a' w'=>∃ (ab:Ww)(ad:Nat)(au:Wx)(ds:Array Value)(b7:Ae),a' = ⟨ds,[]⟩∧Kn 81 [(a,0),(d,0),(g,0)] ((tS 7 ab p.length ad)::(DB aG aE words aF)) ds∧Ah ⟨w,h,A6⟩ b7 [(a,0),(d,0),(g,0)] [⟨UB q r_ x s y aa ac,some 28⟩,⟨UE,some 38⟩,⟨[Wu k aA.length l,Wu e aD.length f,Wu aq aM.length ar],some 38⟩] [⟨k,aA.length,l,3,1,an,0⟩,⟨e,aD.length,f,3,1,ao,0⟩,⟨aq,aM.length,ar,29,1,ap,0⟩,⟨ab,p.length,ad,3,1,au,0⟩] w'∧Ae.le a2 b7∧Ag b7 p au) ?_ ?_
    ·
     refine wp_block ?_
     refine Au (fun h6 a' w'=>∃ (aC:List Int)(aB:Int)(ay:Ww)(az:Nat)(bp:Wx)(dt:Array Value)(bw:Ae),a' = ⟨dt,[]⟩∧Kn 81 [(a,0),(d,0),(g,0)] ((tI 8 aB)::(tS 7 ay aC.length az)::(DB aG aE words aF)) dt∧Ah ⟨w,h,A6⟩ bw [(a,0),(d,0),(g,0)] [⟨UB q r_ x s y aa ac,some 28⟩,⟨UE,some 38⟩,⟨[Wu k aA.length l,Wu e aD.length f,Wu aq aM.length ar],some 38⟩] [⟨k,aA.length,l,3,1,an,0⟩,⟨e,aD.length,f,3,1,ao,0⟩,⟨aq,aM.length,ar,29,1,ap,0⟩,⟨ay,aC.length,az,3,1,bp,0⟩] w'∧Ae.le a2 bw∧Ag bw aC bp∧D4 h6 r_ words aG aC aB=some p) a9 ?_ ?_
     ·
      exact XY ([]:List Int) ⟨0,none,0,[],_,_,rfl,g4.kp,hq,Ae.le_refl _,fh,d3⟩
     ·
      rintro ch _ kh ⟨aC,aB,ay,az,bp,dt,bw,rfl,g5,ce,a5,ca,a0⟩
      clear d3
      obtain _ | ch:=ch
      ·
       rw [D4] at a0; cases a0
      rw [D4] at a0
      replace bd:=bd.mono a5
      replace be:=be.mono a5
      replace bo:=bo.mono a5
      replace aY:=aY.mono a5
      replace a1:=a1.mono a5
      replace a4:=a4.mono a5
      replace bl:=bl.mono a5
      refine XT (XT (Aa (Rk 0 5 ((tB 24 (decide (aB<((r_.lA.length:Nat):Int))))::(tI 8 aB)::(tS 7 ay aC.length az)::(DB aG aE words aF)) g5 ce fun ja c1=>?_)))
      refine wf (wC (decide (aB<((r_.lA.length:Nat):Int))) c1 (fun cp=>?_) (fun cp=>?_))
      ·
       rw [cp,XW] at a0
       refine wp_skip (XT (wp_block (Aa (Rk 0 4 ((tI 30 aB)::(tS 29 q r_.lA.length x)::(tS 27 ay aC.length az)::(tI 8 aB)::(DB aG aE words aF)) c1 ce fun jb fn=>?_))))
       obtain⟨aV,fP,a0⟩:=Av a0
       obtain⟨hr,ht,h3⟩:=Ai fP
       obtain⟨bs,b2,i3,e5,h1,e7⟩:=bd.get (by decide) h3
       obtain⟨_,_,rfl,rfl,rfl⟩:=h1
       have c7:=ce.addPlc (b:=bs) (o:=b2+Wv aB*2) (cs:=(OT aV)) (fun j c hj=>e7 j _ (Ak hj)) rfl (by kernel_rfl) (by kernel_rfl)
       refine Bl 4 (aB) rfl rfl (rfl) rfl (by decide) fn (by rfl) (by rfl) (by rfl) e5 (by rfl) hr ht (by kernel_rfl) fun h8 (fo:Kn 81 [(a,0),(d,0),(g,0),(bs,b2+Wv aB*2)] ((tP 31 3 0)::(tI 30 aB)::(tS 29 q r_.lA.length x)::(tS 27 ay aC.length az)::(tI 8 aB)::(DB aG aE words aF)) h8)=>?_
       refine Rk 5 6 (Te aG aB aE words aF aV ay aC az) fo c7 fun jc fp=>?_
       obtain⟨cR,iH,a0⟩:=Av a0
       refine wl fun K hK=>?_
       refine wc [.agg (OT aV),.c (Wu aE words.length aF),.c (Ws (Wt ((Wt (9*aG))+aB)))] fp c7 (H6 ch c7.has aV ((Ab Ac Ac):rep bw aV _) words aY (Wt ((Wt (9*aG))+aB)) iH) fun jr cl jw e1 d9 hd=>?_
       replace ca:=ca.mono d9
       obtain rfl:=e1
       refine⟨.one (.c (Ws cR)),rfl,fun h9 (fq:Kn 81 [(a,0),(d,0),(g,0),(bs,b2+Wv aB*2)] ((tI 38 cR)::(Te aG aB aE words aF aV ay aC az)) h9)=>hK _ _ ?_⟩
       refine wl fun K hK=>?_
       refine wS 3 1 [Ws cR] fq hd fun dx ia jx (ft:Kn 81 [(a,0),(d,0),(g,0),(bs,b2+Wv aB*2)] ((tS 39 dx 1 1)::(tI 38 cR)::(Te aG aB aE words aF aV ay aC az)) ia) eb=>?_
       have ct:Ag cl ([cR]:List Int) ([.int .i64 cR]:Wx):=⟨_,_,rfl,(Ac:rep cl (cR:Int) _),rfl⟩
       refine hK _ _ ?_
       obtain⟨cJ,gL,a0⟩:=Av a0
       obtain⟨dg,g6⟩:=Bb gL
       refine wl fun K hK=>?_
       refine AD 3 8 1 _ (cJ.length) _ ([.int .i64 cR]:Wx) ft eb rfl rfl (by decide) rfl (by rfl) (by kernel_rfl) (by rfl) (by rfl) (Ag.len ct) (eb.rowCell (i:=4) rfl) ct.one (by rw [dg]; simp <;> omega) (by rw [dg]; exact g6) (by decide) fun b3 b5 ew ib jy fi (fu:Kn 81 [(a,0),(d,0),(g,0),(bs,b2+(aB:Int).toNat*2)] ((tS 40 b3 cJ.length b5)::(tS 39 dx 1 1)::(tI 38 cR)::(Te aG aB aE words aF aV ay aC az)) ib) c8=>?_
       have e8:Ag cl cJ (bp++([.int .i64 cR]:Wx)):=by rw [dg]; exact Ag.append ca ct
       obtain rfl:ew=0:=Nat.le_zero.1 fi
       refine hK _ _ ?_
       refine Rk 14 1 ((tS 7 b3 cJ.length b5)::(tI 8 aB)::(DB aG aE words aF)) fu c8 fun jd fv=>?_
       refine wf (Aa (Rk 0 3 ((tI 8 (Wt (aB+1)))::(tS 7 b3 cJ.length b5)::(DB aG aE words aF)) fv c8 fun je fw=>?_))
       refine wf ?_
       exact XY ch ⟨Xc _,XY cJ ⟨Wt (aB+1),b3,b5,bp++([.int .i64 cR]:Wx),_,_,rfl,(fw.keep [8,7,6,5,4,2,1] (by rfl)).cut 3 (by kernel_rfl),(c8.cutRw 4).cutPl 3 (by kernel_rfl),XU a5 d9,e8,a0⟩⟩
      ·
       rw [cp,XV] at a0
       refine wp_exit ?_
       obtain rfl:=XZ a0
       exact XY ay ⟨az,bp,_,_,rfl,c1.kp,ce,a5,ca⟩
    ·
     rintro _ i1 ⟨ab,ad,au,ds,b7,rfl,fx,c9,a6,c0⟩
     refine XT (Aa (Rk 0 3 ((tS 43 ab p.length ad)::(tS 42 aq aM.length ar)::(DB aG aE words aF)) fx c9 fun jf fy=>?_))
     obtain⟨ax,a3,hx,da⟩:=c9.settle (i:=3) rfl
     replace bd:=bd.mono (XU a6 a3)
     replace be:=be.mono (XU a6 a3)
     replace bo:=bo.mono (XU a6 a3)
     replace aY:=aY.mono (XU a6 a3)
     replace a1:=a1.mono (XU a6 a3)
     replace a4:=a4.mono (XU a6 a3)
     replace bl:=bl.mono (XU a6 a3)
     replace c0:=c0.mono a3
     replace da:Ah ⟨w,h,A6⟩ ax [(a,0),(d,0),(g,0)] [⟨UB q r_ x s y aa ac,some 28⟩,⟨UE,some 38⟩,⟨[Wu k aA.length l,Wu e aD.length f,Wu aq aM.length ar],some 38⟩] [⟨k,aA.length,l,3,1,an,0⟩,⟨e,aD.length,f,3,1,ao,0⟩,⟨aq,aM.length,ar,29,1,ap,0⟩,⟨ab,p.length,ad,3,1,au,(au:Wx).length⟩] i1:=da
     have hv:A4 ax ab ad p:=⟨_,c0,hx,c9.rowCap (i:=3) rfl⟩
     refine wl fun K hK=>?_
     refine wS 29 1 [Wu ab p.length ad] fy da fun bb ic jz (fz:Kn 81 [(a,0),(d,0),(g,0)] ((tS 44 bb 1 1)::(tS 43 ab p.length ad)::(tS 42 aq aM.length ar)::(DB aG aE words aF)) ic) ec=>?_
     have cu:Ag ax ([p]:List (List Int)) ([.slice ab p.length ad]:Wx):=⟨_,_,rfl,((Ad hv):rep ax (p:List Int) _),rfl⟩
     refine hK _ _ ?_
     obtain⟨aZ,fW,ag⟩:=Av ag
     obtain⟨dh,g7⟩:=Bb fW
     refine wl fun K hK=>?_
     refine AD 2 24 1 _ (aZ.length) _ ([.slice ab p.length ad]:Wx) fz ec rfl rfl (by decide) rfl (by rfl) (by kernel_rfl) (by rfl) (by rfl) (Ag.len cu) (ec.rowCell (i:=4) rfl) cu.one (by rw [dh]; simp <;> omega) (by rw [dh]; exact g7) (by decide) fun ae af ex ie j1 fj (f0:Kn 81 [(a,0),(d,0),(g,0)] ((tS 45 ae aZ.length af)::(tS 44 bb 1 1)::(tS 43 ab p.length ad)::(tS 42 aq aM.length ar)::(DB aG aE words aF)) ie) ed=>?_
     have b8:Ag ax aZ (ap++([.slice ab p.length ad]:Wx)):=by rw [dh]; exact Ag.append bl cu
     obtain rfl:ex=0:=Nat.le_zero.1 fj
     refine hK _ _ ?_
     refine Rk 5 1 ((tP 46 2 2)::(tS 45 ae aZ.length af)::(DB aG aE words aF)) f0 ed fun ig f2=>?_
     refine wl fun K hK=>?_
     refine EZ 2 2 (.c (Wu ae aZ.length af)) (Pz k aA l e aD f ae aZ af) f2 ed fun ev f3 a8=>hK _ _ ?_
     have f4:Kn 81 [(a,0),(d,0),(g,0)] (DB aG aE words aF) ig:=f3.kp
     refine wf (XT (Aa (Rk 0 5 ((tB 51 (decide (aG<((r_.lB.length:Nat):Int))))::(DB aG aE words aF)) f4 a8 fun jg c2=>?_)))
     refine wf (wC (decide (aG<((r_.lB.length:Nat):Int))) c2 (fun cq=>?_) (fun cq=>?_))
     ·
      rw [cq,XW] at ag
      refine Am (by kernel_rfl) ?_
      replace a8:=a8.drew
      refine Ao [18] [(a,0),(d,0),(g,0)] [⟨UB q r_ x s y aa ac,some 28⟩,⟨UE,some 38⟩,⟨Pz k aA l e aD f ae aZ af,some 38⟩] ?_
      refine Dr [0,1,2,3,4] (dn 4) ((tI 56 aG)::(tS 55 s r_.lB.length y)::(tS 53 k aA.length l)::(DB aG aE words aF)) c2 a8 fun jh f5=>?_
      obtain⟨eN,ex57,ag⟩:=Av ag
      obtain⟨hs,hu,h4⟩:=Ai ex57
      obtain⟨u,z,i4,e6,h2,e9⟩:=be.get (by decide) h4
      obtain⟨_,_,rfl,rfl,⟨_,_,rfl,rfl,rfl⟩⟩:=h2
      have ee:=a8.addPlc (b:=u) (o:=z+Wv aG*3) (cs:=(Nz eN)) (fun j c hj=>e9 j _ (Ak hj)) rfl (by kernel_rfl) (by kernel_rfl)
      refine Az 5 (aG) (Nz eN) (fun _ _ _ _ _ h=>h) rfl rfl (rfl) rfl (by decide) (by kernel_rfl) (by kernel_rfl) f5 a8.plOk (by rfl) (by rfl) (by rfl) e6 (by rfl) hs hu (by kernel_rfl) fun ih (f7:Kn 81 (FQ a d g u z aG) ((tP 57 3 0)::(tI 56 aG)::(tS 55 s r_.lB.length y)::(tS 53 k aA.length l)::(DB aG aE words aF)) ih)=>?_
      refine Dr [6,7,8,9,10,11,15,16,17,19,20,21,22] [22,21,20,19,17,16,15,11,10,9,8,7,6,5,4,3,2,1,0] (Nh aG aE words aF e aD f eN k aA l) f7 ee fun ji d6=>?_
      obtain⟨dV,jN,ag⟩:=Av ag
      obtain⟨fJ,ex66,ag⟩:=Av ag
      obtain⟨dH,gV,ag⟩:=Av ag
      obtain⟨iB,ex77,ag⟩:=Av ag
      have hg:Ah ⟨w,h,A6⟩ ax (FQ a d g u z aG) [⟨UB q r_ x s y aa ac,some 28⟩,⟨UE,some 38⟩,⟨Pz k aA l e aD f ae aZ af,some 38⟩,⟨Nz eN,none⟩] [⟨k,aA.length,l,3,1,an,0⟩,⟨e,aD.length,f,3,1,ao,0⟩,⟨ae,aZ.length,af,29,1,ap++([.slice ab p.length ad]:Wx),0⟩,⟨ab,p.length,ad,3,1,au,(au:Wx).length⟩,⟨bb,1,1,29,1,([.slice ab p.length ad]:Wx),0⟩,⟨none,0,0,3,1,[],0⟩] (World.drew ev):=ee.nilRow 3 1
      have i6:Ag ax ([]:List Int) []:=Ag.nil
      have bm:Ah ⟨w,h,A6⟩ ax (FQ a d g u z aG) [⟨UB q r_ x s y aa ac,some 28⟩,⟨UE,some 38⟩,⟨Pz k aA l e aD f ae aZ af,some 38⟩,⟨Nz eN,none⟩] [⟨k,aA.length,l,3,1,an,0⟩,⟨e,aD.length,f,3,1,ao,0⟩,⟨ae,aZ.length,af,29,1,ap++([.slice ab p.length ad]:Wx),0⟩,⟨ab,p.length,ad,3,1,au,(au:Wx).length⟩,⟨bb,1,1,29,1,([.slice ab p.length ad]:Wx),0⟩,⟨none,0,0,3,1,[],0⟩,⟨none,0,0,3,1,[],0⟩] (World.drew ev):=hg.nilRow 3 1
      have i7:Ag ax ([]:List Int) []:=Ag.nil
      refine Bc (fun W=>∀ (av:Ww),∀ (aw:Nat),∀ (ci:Wx),∀ (dy:Ww),∀ (d1:Nat),∀ (du:Wx),∀ a' w',(∃ (dl:Array Value)(bj:Ae),a' = ⟨dl,[]⟩∧Kn 81 (FQ a d g u z aG) (Td r_ av fJ aw aG aE words aF e aD f) dl∧Ah ⟨w,h,A6⟩ bj (FQ a d g u z aG) [⟨UB q r_ x s y aa ac,some 28⟩,⟨UE,some 38⟩,⟨Pz k aA l e aD f ae aZ af,some 38⟩,⟨Nz eN,none⟩] [⟨av,fJ.length,aw,3,1,ci,0⟩,⟨e,aD.length,f,3,1,ao,0⟩,⟨ae,aZ.length,af,29,1,ap++([.slice ab p.length ad]:Wx),0⟩,⟨ab,p.length,ad,3,1,au,(au:Wx).length⟩,⟨bb,1,1,29,1,([.slice ab p.length ad]:Wx),0⟩,⟨dy,1,d1,3,1,du,0⟩,⟨none,0,0,3,1,[],0⟩] w'∧Ae.le ax bj∧Ag bj fJ ci∧Ag bj ([dV]:List Int) du)→W (FQ a d g u z aG) [⟨UB q r_ x s y aa ac,some 28⟩,⟨UE,some 38⟩,⟨Pz k aA l e aD f ae aZ af,some 38⟩,⟨Nz eN,none⟩] [26,14,13,12,18,22,21,20,19,17,16,15,11,10,9,8,7,6,5,4,3,2,1,0] a' w') ?_ (fun er=>?_)
      ·
       intro av aw ci dy d1 du
       rintro _ j2 ⟨dl,bj,rfl,f8,ef,cb,cv,i8⟩
       replace aY:=aY.mono cb
       refine Dl 23 fun K hK=>?_
       refine wc [.agg (UJ r_),.c (Wu aE words.length aF),.c (Ws (Wt ((Wt (9*aG))+8)))] f8 ef (H6 a9 ef.has r_.turn ((Ab Ac Ac):rep bj r_.turn _) words aY (Wt ((Wt (9*aG))+8)) gV) fun js cm j3 e2 cc eg=>?_
       replace cv:=cv.mono cc
       replace a4:=a4.mono (XU cb cc)
       replace b8:=b8.mono (XU cb cc)
       obtain rfl:=e2
       refine⟨.one (.c (Ws dH)),rfl,fun ij (f9:Kn 81 (FQ a d g u z aG) ((tI 75 dH)::(Td r_ av fJ aw aG aE words aF e aD f)) ij)=>hK _ _ eg.plOk ?_⟩
       refine Dl 24 fun K hK=>?_
       refine BV 6 rfl rfl 3 1 [Ws dH] f9 eg rfl rfl (by decide) (by kernel_rfl) (by rfl) (by rfl) rfl (by decide) fun dz ik j4 (ga:Kn 81 (FQ a d g u z aG) ((tS 76 dz 1 1)::(tI 75 dH)::(Td r_ av fJ aw aG aE words aF e aD f)) ik) db=>?_
       have cw:Ag cm ([dH]:List Int) ([.int .i64 dH]:Wx):=⟨_,_,rfl,(Ac:rep cm (dH:Int) _),rfl⟩
       refine hK _ _ db.plOk ?_
       refine Dl 25 fun K hK=>?_
       obtain⟨di,g8⟩:=Bb ex77
       refine AD 1 8 1 _ (iB.length) _ ([.int .i64 dH]:Wx) ga db rfl rfl (by decide) rfl (by rfl) (by kernel_rfl) (by rfl) (by rfl) (Ag.len cw) (db.rowCell (i:=6) rfl) cw.one (by rw [di]; simp <;> omega) (by rw [di]; exact g8) (by decide) fun bh bi ey il j5 fk (gc:Kn 81 (FQ a d g u z aG) ((tS 77 bh iB.length bi)::(tS 76 dz 1 1)::(tI 75 dH)::(Td r_ av fJ aw aG aE words aF e aD f)) il) eh=>?_
       have fa:Ag cm iB (ao++([.int .i64 dH]:Wx)):=by rw [di]; exact Ag.append a4 cw
       obtain rfl:ey=0:=Nat.le_zero.1 fk
       refine hK _ _ eh.plOk ?_
       refine Cq 27 rfl (by kernel_rfl) (by decide) (rfl) (by kernel_rfl) fun K hK=>?_
       refine EZ 2 0 (.c (Wu av fJ.length aw)) [Wu av fJ.length aw,Wu e aD.length f,Wu ae aZ.length af] gc eh fun j6 gd ej=>hK _ _ ?_
       refine Ao [18] (FQ a d g u z aG) [⟨UB q r_ x s y aa ac,some 28⟩,⟨UE,some 38⟩,⟨[Wu av fJ.length aw,Wu e aD.length f,Wu ae aZ.length af],some 38⟩,⟨Nz eN,none⟩] ?_
       refine Dr [28] [28,27,25,24,23,26,14,13,12,18,22,21,20,19,17,16,15,11,10,9,8,7,6,5,4,3,2,1,0] ((tP 79 2 1)::(tS 77 bh iB.length bi)::(DB aG aE words aF)) gd ej fun im gf=>?_
       refine Cq 29 rfl (by kernel_rfl) (by decide) (rfl) (by kernel_rfl) fun K hK=>?_
       refine EZ 2 1 (.c (Wu bh iB.length bi)) [Wu av fJ.length aw,Wu bh iB.length bi,Wu ae aZ.length af] gf ej fun j7 gg ek=>hK _ _ ?_
       refine Ao [18] (FQ a d g u z aG) [⟨UB q r_ x s y aa ac,some 28⟩,⟨UE,some 38⟩,⟨[Wu av fJ.length aw,Wu bh iB.length bi,Wu ae aZ.length af],some 38⟩,⟨Nz eN,none⟩] ?_
       have gh:Kn 81 (FQ a d g u z aG) (DB aG aE words aF) im:=gg.kp
       refine A2 (by kernel_rfl) (Aa (Rk 0 3 [tI 6 (Wt (aG+1)),tP 5 2 0,tP 4 1 0,tP 2 0 0,tS 1 aE words.length aF] gh ek fun jk gi=>?_))
       refine wf ?_
       exact XY a9 ⟨Xc _,XY fJ ⟨iB,aZ,Wt (aG+1),av,aw,ci,bh,bi,ao++([.int .i64 dH]:Wx),ae,af,ap++([.slice ab p.length ad]:Wx),_,_,rfl,(gi.keep [6,5,4,2,1] (by rfl)).cut 3 (by kernel_rfl),(ek.cutRw 3).cutPl 3 (by kernel_rfl),XU bc (XU a6 (XU a3 (XU cb cc))),cv,fa,b8,ag⟩⟩
      refine Bc (fun W=>∀ (bq:Ww),∀ (bt:Nat),∀ (bf:Wx),∀ a' w',(∃ (dm:Array Value)(bu:Ae),a' = ⟨dm,[]⟩∧Kn 81 (FQ a d g u z aG) ((tA 70 (UJ r_))::(tS 65 bq 1 bt)::(Tf aG aE words aF e aD f k aA l)) dm∧Ah ⟨w,h,A6⟩ bu (FQ a d g u z aG) [⟨UB q r_ x s y aa ac,some 28⟩,⟨UE,some 38⟩,⟨Pz k aA l e aD f ae aZ af,some 38⟩,⟨Nz eN,none⟩] [⟨k,aA.length,l,3,1,an,0⟩,⟨e,aD.length,f,3,1,ao,0⟩,⟨ae,aZ.length,af,29,1,ap++([.slice ab p.length ad]:Wx),0⟩,⟨ab,p.length,ad,3,1,au,(au:Wx).length⟩,⟨bb,1,1,29,1,([.slice ab p.length ad]:Wx),0⟩,⟨bq,1,bt,3,1,bf,0⟩,⟨none,0,0,3,1,[],0⟩] w'∧Ae.le ax bu∧Ag bu ([dV]:List Int) bf)→W (FQ a d g u z aG) [⟨UB q r_ x s y aa ac,some 28⟩,⟨UE,some 38⟩,⟨Pz k aA l e aD f ae aZ af,some 38⟩,⟨Nz eN,none⟩] [13,12,18,22,21,20,19,17,16,15,11,10,9,8,7,6,5,4,3,2,1,0] a' w') ?_ (fun es=>?_)
      ·
       intro bq bt bf
       rintro _ j8 ⟨dm,bu,rfl,gk,el,ea,b9⟩
       replace a1:=a1.mono ea
       refine Dl 14 fun K hK=>?_
       obtain⟨dj,g9⟩:=Bb ex66
       refine AD 0 8 1 _ (fJ.length) _ bf gk el rfl rfl (by decide) rfl (by rfl) (by kernel_rfl) (by rfl) (by rfl) (Ag.len b9) (el.rowCell (i:=5) rfl) b9.one (by rw [dj]; simp <;> omega) (by rw [dj]; exact g9) (by decide) fun cj ck ez io j9 fl (gl:Kn 81 (FQ a d g u z aG) ((tS 66 cj fJ.length ck)::(tA 70 (UJ r_))::(tS 65 bq 1 bt)::(Tf aG aE words aF e aD f k aA l)) io) dc=>?_
       have fb:Ag bu fJ (an++bf):=by rw [dj]; exact Ag.append a1 b9
       obtain rfl:ez=0:=Nat.le_zero.1 fl
       refine hK _ _ dc.plOk ?_
       refine Dr [26] [26,14,13,12,18,22,21,20,19,17,16,15,11,10,9,8,7,6,5,4,3,2,1,0] ((tP 78 2 0)::(tS 66 cj fJ.length ck)::(tA 70 (UJ r_))::(tI 74 (Wt ((Wt (9*aG))+8)))::(tS 71 aE words.length aF)::(tS 68 e aD.length f)::(DB aG aE words aF)) gl dc fun jl gm=>?_
       refine Ax [26,14,13,12,18,22,21,20,19,17,16,15,11,10,9,8,7,6,5,4,3,2,1,0] (by kernel_rfl) (by rfl) (er cj ck (an++bf) bq bt bf _ _ ?_)
       exact XY _ ⟨_,rfl,gm.kp,dc,ea,fb,b9⟩
      refine Bc (fun W=>∀ a' w',(∃ (dp:Array Value)(bv:Ae),a' = ⟨dp,[]⟩∧Kn 81 (FQ a d g u z aG) ((tA 70 (UJ r_))::(tI 64 dV)::(Tf aG aE words aF e aD f k aA l)) dp∧Ah ⟨w,h,A6⟩ bv (FQ a d g u z aG) [⟨UB q r_ x s y aa ac,some 28⟩,⟨UE,some 38⟩,⟨Pz k aA l e aD f ae aZ af,some 38⟩,⟨Nz eN,none⟩] [⟨k,aA.length,l,3,1,an,0⟩,⟨e,aD.length,f,3,1,ao,0⟩,⟨ae,aZ.length,af,29,1,ap++([.slice ab p.length ad]:Wx),0⟩,⟨ab,p.length,ad,3,1,au,(au:Wx).length⟩,⟨bb,1,1,29,1,([.slice ab p.length ad]:Wx),0⟩,⟨none,0,0,3,1,[],0⟩,⟨none,0,0,3,1,[],0⟩] w'∧Ae.le ax bv)→W (FQ a d g u z aG) [⟨UB q r_ x s y aa ac,some 28⟩,⟨UE,some 38⟩,⟨Pz k aA l e aD f ae aZ af,some 38⟩,⟨Nz eN,none⟩] [12,18,22,21,20,19,17,16,15,11,10,9,8,7,6,5,4,3,2,1,0] a' w') ?_ (fun et=>?_)
      ·
       rintro _ ka ⟨dp,bv,rfl,gn,hn,hb⟩
       refine Dl 13 fun K hK=>?_
       refine BV 5 rfl rfl 3 1 [Ws dV] gn hn rfl rfl (by decide) (by kernel_rfl) (by rfl) (by rfl) rfl (by decide) fun d0 ip kb (go:Kn 81 (FQ a d g u z aG) ((tS 65 d0 1 1)::(tA 70 (UJ r_))::(tI 64 dV)::(Tf aG aE words aF e aD f k aA l)) ip) em=>?_
       have fd:Ag bv ([dV]:List Int) ([.int .i64 dV]:Wx):=⟨_,_,rfl,(Ac:rep bv (dV:Int) _),rfl⟩
       refine hK _ _ em.plOk ?_
       refine Ax [13,12,18,22,21,20,19,17,16,15,11,10,9,8,7,6,5,4,3,2,1,0] (by kernel_rfl) (by rfl) (es d0 1 ([.int .i64 dV]:Wx) _ _ ?_)
       exact XY _ ⟨_,rfl,go.kp,em,hb,fd⟩
      refine D0 12 18 rfl rfl (by kernel_rfl) (by decide) (rfl) (rfl) (fun K hK=>?_) (fun K hK=>?_)
      ·
       refine wc [.agg (VX eN),.c (Wu aE words.length aF),.c (Ws (Wt ((Wt (9*aG))+7)))] d6 bm (H6 a9 bm.has eN.tm ((Ab Ac Ac):rep ax eN.tm _) words aY (Wt ((Wt (9*aG))+7)) jN) fun jt cn kc e3 cd bz=>?_
       replace a1:=a1.mono cd
       obtain rfl:=e3
       refine⟨.one (.c (Ws dV)),rfl,fun iq (d7:Kn 81 (FQ a d g u z aG) ((tI 64 dV)::(Nh aG aE words aF e aD f eN k aA l)) iq)=>hK _ _ bz.plOk ?_⟩
       refine D0 13 18 rfl rfl (by kernel_rfl) (by decide) (rfl) (rfl) (fun K hK=>?_) (fun K hK=>?_)
       ·
        refine BV 5 rfl rfl 3 1 [Ws dV] d7 bz rfl rfl (by decide) (by kernel_rfl) (by rfl) (by rfl) rfl (by decide) fun br ir kd (d8:Kn 81 (FQ a d g u z aG) ((tS 65 br 1 1)::(tI 64 dV)::(Nh aG aE words aF e aD f eN k aA l)) ir) bn=>?_
        have bx:Ag cn ([dV]:List Int) ([.int .i64 dV]:Wx):=⟨_,_,rfl,(Ac:rep cn (dV:Int) _),rfl⟩
        refine hK _ _ bn.plOk ?_
        refine D0 14 18 rfl rfl (by kernel_rfl) (by decide) (rfl) (rfl) (fun K hK=>?_) (fun K hK=>?_)
        ·
         obtain⟨dk,ha⟩:=Bb ex66
         refine AD 0 8 1 _ (fJ.length) _ ([.int .i64 dV]:Wx) d8 bn rfl rfl (by decide) rfl (by rfl) (by kernel_rfl) (by rfl) (by rfl) (Ag.len bx) (bn.rowCell (i:=5) rfl) bx.one (by rw [dk]; simp <;> omega) (by rw [dk]; exact ha) (by decide) fun b4 b6 e0 iu ke fm (gp:Kn 81 (FQ a d g u z aG) ((tS 66 b4 fJ.length b6)::(tS 65 br 1 1)::(tI 64 dV)::(Nh aG aE words aF e aD f eN k aA l)) iu) b0=>?_
         have ff:Ag cn fJ (an++([.int .i64 dV]:Wx)):=by rw [dk]; exact Ag.append a1 bx
         obtain rfl:e0=0:=Nat.le_zero.1 fm
         refine hK _ _ b0.plOk ?_
         refine Dr [26] [26,14,13,12,22,21,20,19,17,16,15,11,10,9,8,7,6,5,4,3,2,1,0] ((tP 78 2 0)::(tS 66 b4 fJ.length b6)::(tI 74 (Wt ((Wt (9*aG))+8)))::(tS 71 aE words.length aF)::(tP 69 0 1)::(tS 68 e aD.length f)::(DB aG aE words aF)) gp b0 fun jm gq=>?_
         refine Dl 18 fun K hK=>?_
         refine Bk gq b0.plOk rfl (by decide) (by kernel_rfl) fun iv (gr:Kn 81 (FQ a d g u z aG) ((tA 70 (UJ r_))::(tP 78 2 0)::(tS 66 b4 fJ.length b6)::(tI 74 (Wt ((Wt (9*aG))+8)))::(tS 71 aE words.length aF)::(tP 69 0 1)::(tS 68 e aD.length f)::(DB aG aE words aF)) iv)=>hK _ _ b0.plOk ?_
         refine Ax [26,14,13,12,18,22,21,20,19,17,16,15,11,10,9,8,7,6,5,4,3,2,1,0] (by kernel_rfl) (by rfl) (er b4 b6 (an++([.int .i64 dV]:Wx)) br 1 ([.int .i64 dV]:Wx) _ _ ?_)
         exact XY _ ⟨_,rfl,gr.kp,b0,cd,ff,bx⟩
        ·
         refine Bk d8 bn.plOk rfl (by decide) (by kernel_rfl) fun iw (gs:Kn 81 (FQ a d g u z aG) ((tA 70 (UJ r_))::(tS 65 br 1 1)::(tI 64 dV)::(Nh aG aE words aF e aD f eN k aA l)) iw)=>hK _ _ bn.plOk ?_
         refine Ax [13,12,18,22,21,20,19,17,16,15,11,10,9,8,7,6,5,4,3,2,1,0] (by kernel_rfl) (by rfl) (es br 1 ([.int .i64 dV]:Wx) _ _ ?_)
         exact XY _ ⟨_,rfl,gs.kp,bn,cd,bx⟩
       ·
        refine Bk d7 bz.plOk rfl (by decide) (by kernel_rfl) fun ix (gu:Kn 81 (FQ a d g u z aG) ((tA 70 (UJ r_))::(tI 64 dV)::(Nh aG aE words aF e aD f eN k aA l)) ix)=>hK _ _ bz.plOk ?_
        refine Ax [12,18,22,21,20,19,17,16,15,11,10,9,8,7,6,5,4,3,2,1,0] (by kernel_rfl) (by rfl) (et _ _ ?_)
        exact XY _ ⟨_,rfl,gu.kp,bz,cd⟩
      ·
       refine Bk d6 bm.plOk rfl (by decide) (by kernel_rfl) fun iy (gv:Kn 81 (FQ a d g u z aG) ((tA 70 (UJ r_))::(Nh aG aE words aF e aD f eN k aA l)) iy)=>hK _ _ bm.plOk ?_
       refine Dl 12 fun K hK=>?_
       refine wc [.agg (VX eN),.c (Wu aE words.length aF),.c (Ws (Wt ((Wt (9*aG))+7)))] gv bm (H6 a9 bm.has eN.tm ((Ab Ac Ac):rep ax eN.tm _) words aY (Wt ((Wt (9*aG))+7)) jN) fun ju i5 kf e4 hc en=>?_
       obtain rfl:=e4
       refine⟨.one (.c (Ws dV)),rfl,fun iz (gw:Kn 81 (FQ a d g u z aG) ((tI 64 dV)::(tA 70 (UJ r_))::(Nh aG aE words aF e aD f eN k aA l)) iz)=>hK _ _ en.plOk ?_⟩
       refine Ax [12,18,22,21,20,19,17,16,15,11,10,9,8,7,6,5,4,3,2,1,0] (by kernel_rfl) (by rfl) (et _ _ ?_)
       exact XY _ ⟨_,rfl,gw.kp,en,hc⟩
     ·
      rw [cq,XV] at ag
      refine wp_skip (Aa (Rk 0 3 [tI 6 (Wt (aG+1)),tP 5 2 0,tP 4 1 0,tP 2 0 0,tS 1 aE words.length aF] c2 a8 fun jn gx=>?_))
      refine wf ?_
      exact XY a9 ⟨Xc _,XY aA ⟨aD,aZ,Wt (aG+1),k,l,an,e,f,ao,ae,af,ap++([.slice ab p.length ad]:Wx),_,_,rfl,gx.kp,a8.cutRw 3,XU bc (XU a6 a3),a1,a4,b8,ag⟩⟩
   ·
    rw [cr,XV] at ag
    refine wp_exit ?_
    obtain rfl:=XZ ag
    exact XY k ⟨l,an,e,f,ao,aq,ar,ap,_,_,rfl,c3.kp,b1,bc,a1,a4,bl⟩
 ·
  rintro _ kg ⟨ah,ak,a7,ai,al,ba,aj,am,bg,dq,bk,rfl,gy,eo,i9,cx,cy,cz⟩
  refine XT (Aa (Rk 0 1 [tA 80 (Pb ah m ak ai al aj am),tP 4 1 0] gy eo fun i0 gz=>?_))
  refine wl fun K hK=>?_
  refine EZ 1 0 (.agg (Pb ah m ak ai al aj am)) (Pb ah m ak ai al aj am) gz eo fun dw g0 ep=>hK _ _ ?_
  have g1:Kn 81 [(a,0),(d,0),(g,0)] [tP 4 1 0] i0:=g0.kp
  refine wf (wp_ret ?_)
  obtain⟨d4,c4,hy,cf⟩:=ep.settle (i:=0) rfl
  replace cx:=cx.mono c4
  replace cf:Ah ⟨w,h,A6⟩ d4 [(a,0),(d,0),(g,0)] [⟨UB q r_ x s y aa ac,some 28⟩,⟨Pb ah m ak ai al aj am,some 38⟩,⟨Pb ah m ak ai al aj am,some 38⟩] [⟨ah,m.1.length,ak,3,1,a7,(a7:Wx).length⟩,⟨ai,m.2.1.length,al,3,1,ba,0⟩,⟨aj,m.2.2.length,am,29,1,bg,0⟩] dw:=cf
  have de:A4 d4 ah ak m.1:=⟨_,cx,hy,ep.rowCap (i:=0) rfl⟩
  obtain⟨d5,c5,hz,cg⟩:=cf.settle (i:=1) rfl
  replace cy:=cy.mono (XU c4 c5)
  replace cg:Ah ⟨w,h,A6⟩ d5 [(a,0),(d,0),(g,0)] [⟨UB q r_ x s y aa ac,some 28⟩,⟨Pb ah m ak ai al aj am,some 38⟩,⟨Pb ah m ak ai al aj am,some 38⟩] [⟨ah,m.1.length,ak,3,1,a7,(a7:Wx).length⟩,⟨ai,m.2.1.length,al,3,1,ba,(ba:Wx).length⟩,⟨aj,m.2.2.length,am,29,1,bg,0⟩] dw:=cg
  have df:A4 d5 ai al m.2.1:=⟨_,cy,hz,cf.rowCap (i:=1) rfl⟩
  obtain⟨co,c6,h0,dd⟩:=cg.settle (i:=2) rfl
  replace de:=de.mono (XU c5 c6)
  replace df:=df.mono c6
  replace cz:=cz.mono (XU (XU c4 c5) c6)
  replace dd:Ah ⟨w,h,A6⟩ co [(a,0),(d,0),(g,0)] [⟨UB q r_ x s y aa ac,some 28⟩,⟨Pb ah m ak ai al aj am,some 38⟩,⟨Pb ah m ak ai al aj am,some 38⟩] [⟨ah,m.1.length,ak,3,1,a7,(a7:Wx).length⟩,⟨ai,m.2.1.length,al,3,1,ba,(ba:Wx).length⟩,⟨aj,m.2.2.length,am,29,1,bg,(bg:Wx).length⟩] dw:=dd
  have hw:A4 co aj am m.2.2:=⟨_,cz,h0,cg.rowCap (i:=2) rfl⟩
  obtain rfl:=XZ H
  exact rt (.one (.agg (Pb ah m ak ai al aj am))) g1 dd ⟨_,rfl,((Ab (Ad de) (Ab (Ad df) (Ad hw))):rep co ((Ap.mk m.1 m.2.1 m.2.2):Ap) _)⟩
end Go.Proofs.YtokchpjijlebiaaGreat
