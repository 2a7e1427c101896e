/- Each call computes its plain function. -/
import Derived.Test.YtokchpjijlebiaaGreatProg
import Derived.Test.YtokchpjijlebiaaGreatRQWR
import Derived.Test.YtokchpjijlebiaaGreatRQWU
set_option linter.all false
namespace Go.Proofs.YtokchpjijlebiaaGreat
open Go Go.RowKit
set_option maxRecDepth 100000
set_option maxHeartbeats 4000000
open Rep (rep)
open KRep (kv)
open VRep (rv)
abbrev KC (d y ac)(ag:Nat)(aB:Int)(ah ai aj)(ak:Nat):=([(d,0),(y,0),(ac,ag+Wv aB*3),(ah,0),(ai,0),(aj,ak+Wv aB*2)]:Bh)
abbrev LZ (d y ac)(ag:Nat)(aB:Int)(ah ai aj)(ak:Nat)(a1)(a2:Nat)(a4)(a6:Nat):=([(d,0),(y,0),(ac,ag+Wv aB*3),(ah,0),(ai,0),(aj,ak+Wv aB*2),(a1,a2+Wv aB*3),(a4,a6+Wv aB*2)]:Bh)
abbrev Tv (d y ac)(ag:Nat)(aB:Int)(ah ai aj)(ak:Nat)(a1)(a2:Nat)(a4)(a6:Nat)(bv)(eL:Int)(b6):=([(d,0),(y,0),(ac,ag+Wv aB*3),(ah,0),(ai,0),(aj,ak+Wv aB*2),(a1,a2+Wv aB*3),(a4,a6+Wv aB*2),(bv,0+Wv eL*1),(b6,0+Wv eL*1)]:Bh)
abbrev Du (cO:(List Bj)×(List A8))(an ao aq)(cU:(List Bj)×(List A8))(au ap ar al am):=([tI 48 ((cO.1.length:Nat):Int),tS 47 an cO.1.length ao,tS 8 aq cU.2.length au,tS 7 ap cU.1.length ar,tS 6 al cO.2.length am,tP 3 1 0,tP 1 0 0]:TM)
theorem DN (n:Nat) {h:Ae} {w:World} (hh:Dk h w) (w_:AM) {eW:Wx} (gt:rep h w_ eW) {r:List (DO Int Rg)} (H:BT n w_=some r) :
  Calls Tryz.prog 52 #[.agg eW.toArray] w (Dq (fun h v=>∃ a c,v=.slice a r.length c∧A4 h a c r) h w):=by
 obtain⟨_,_,rfl,⟨_,_,rfl,⟨f,p,rfl,av⟩,⟨_,_,rfl,⟨_,_,rfl,rfl,rfl⟩,⟨_,_,rfl,⟨g,q,rfl,aw⟩,⟨_,_,rfl,⟨l,u,rfl,ax⟩,⟨_,_,rfl,rfl,⟨_,_,rfl,rfl,⟨_,_,rfl,rfl,rfl⟩⟩⟩⟩⟩⟩⟩,⟨_,_,rfl,⟨z,ad,rfl,bc⟩,⟨_,_,rfl,⟨aa,ae,rfl,bd⟩,⟨ab,af,rfl,be⟩⟩⟩⟩:=gt
 refine SZ (e:=[]) 101 [.agg (CH f w_ p g q l u z ad aa ae ab af)] Tryz.func52 rfl rfl rfl rfl fun t hk=>?_
 have hm:=Ah.begin h w hh
 unfold BT at H
 refine XT (Aa (wl fun K hK=>?_))
 refine wb (.agg (CH f w_ p g q l u z ad aa ae ab af)) hk hm fun d o0 rk (k8:Kn 101 [(d,0)] [tP 1 0 0,tA 0 (CH f w_ p g q l u z ad aa ae ab af)] o0) ep=>hK _ _ ?_
 refine Rk 1 1 [tP 1 0 0] k8 ep fun qk lb=>?_
 refine wf (XT (Aa (Rk 0 2 [tA 16 (Ja f w_ p g q l u),tP 1 0 0] lb ep fun qo lh=>?_)))
 obtain⟨bM,eU,H⟩:=Av H
 refine wl fun K hK=>?_
 refine wc [.agg (Ja f w_ p g q l u)] lh ep (Cy n ep.has w_.lH ((Ab (Ad av) (Ab (Ab Ac Ac) (Ab (Ad aw) (Ab (Ad ax) (Ab Ac (Ab Ac (Ab Ac Ac))))))):rep h w_.lH _) eU) fun rb ef rq jj c6 nc=>?_
 replace av:=av.mono c6
 replace aw:=aw.mono c6
 replace ax:=ax.mono c6
 replace bc:=bc.mono c6
 replace bd:=bd.mono c6
 replace be:=be.mono c6
 obtain rfl:=jj
 refine⟨.one (.c (Ws bM)),rfl,fun o5 (lv:Kn 101 [(d,0)] [tI 17 bM,tA 16 (Ja f w_ p g q l u),tP 1 0 0] o5)=>hK _ _ ?_⟩
 obtain⟨cG,jF,H⟩:=Av H
 obtain⟨nz,n4,h8⟩:=SW jF
 refine wl fun K hK=>?_
 refine L7 113 1 8 [.map none] (bM) lv nc rfl rfl (by decide) (by rfl) (by kernel_rfl) (by kernel_rfl) (by rfl) nz n4 (by decide) fun cx pa pi (gu:Kn 101 [(d,0)] [(18,.one (.c (Wu cx ((Wv bM)) ((Wv bM))))),(17,.one (.c (Ws bM))),(16,.one (.agg (Wp w_.lH f p g q l u))),(1,.one (.c (.ptr 0 0)))] pa) (fo:Ah ⟨w,h,A6⟩ ef [(d,0)] [⟨[Wu f w_.lH.lA.length p,Ws w_.lH.turn.lo,Ws w_.lH.turn.hi,Wu g w_.lH.lB.length q,Wu l w_.lH.lC.length u,Ws w_.lH.lI,Ws w_.lH.gap,Ws w_.lH.fr,Ws w_.lH.to_,Wu z w_.acts.lD.length ad,Wu aa w_.acts.lE.length ae,Wu ab w_.acts.lC.length af],some 94⟩] [⟨cx,(Wv bM),(Wv bM),113,1,List.flatten (List.replicate (Wv bM) ([.map none]:Wx)),0⟩] pi)=>?_
 obtain⟨ix,j5,ki⟩:∃ bs:List (Option Nat),List.flatten (List.replicate (Wv bM) ([.map none]:Wx))=List.map Value.map bs∧Be ef ⟨w,h,A6⟩ bs cG:=⟨List.replicate (Wv bM) none,U4 _,by rw [h8]; exact Be.nils _⟩
 have mr:(Wv bM)=cG.length:=by rw [h8]; simp
 rw [j5] at fo
 rw [mr] at gu fo
 refine hK _ _ ?_
 refine wl fun K hK=>?_
 refine wa [Wu none 0 0] gu fo fun y ie rr (ma:Kn 101 [(d,0),(y,0)] [tP 3 1 0,tS 18 cx cG.length cG.length,tI 17 bM,tA 16 (Ja f w_ p g q l u),tP 1 0 0] ie) nh=>hK _ _ ?_
 refine wl fun K hK=>?_
 refine EZ 1 0 (.c (Wu cx cG.length cG.length)) [Wu cx cG.length cG.length] ma nh fun rs me ha=>hK _ _ ?_
 have mg:Kn 101 [(d,0),(y,0)] [tP 3 1 0,tP 1 0 0] ie:=me.kp
 refine wf (XT (XT (Aa (Rk 0 3 [tI 21 0,tI 20 ((cG.length:Nat):Int),tP 3 1 0,tP 1 0 0] mg ha fun q2 ml=>?_))))
 refine wf ?_
 obtain⟨cp,gd,H⟩:=Av H
 refine A0 (fun a' w'=>∃ (cy:Ww)(c1:Nat)(d5:List (Option Nat))(cv:Fr)(d6:List Nat)(f0:Array Value)(cf:Ae),a' = ⟨f0,List.map KX d6⟩∧Kn 101 [(d,0),(y,0)] [tP 3 1 0,tP 1 0 0] f0∧Ah cv cf [(d,0),(y,0)] [⟨CH f w_ p g q l u z ad aa ae ab af,some 94⟩,⟨[Wu cy cp.length c1],some 114⟩] [⟨cy,cp.length,c1,113,1,List.map Value.map d5,0⟩] w'∧Ae.le ef cf∧Be cf cv d5 cp∧Fr.Of w h cv∧Fc cv d6) ?_ ?_
 ·
  refine wp_block ?_
  refine Au (fun ow a' w'=>∃ (aA:List (Option (List (Int×Rg))))(aD:Int)(a9:Ww)(ba:Nat)(bk:List (Option Nat))(b5:Fr)(df:List Nat)(f1:Array Value)(bw:Ae),a' = ⟨f1,List.map KX df⟩∧Kn 101 [(d,0),(y,0)] [tI 21 aD,tI 20 ((cG.length:Nat):Int),tP 3 1 0,tP 1 0 0] f1∧Ah b5 bw [(d,0),(y,0)] [⟨CH f w_ p g q l u z ad aa ae ab af,some 94⟩,⟨[Wu a9 aA.length ba],some 114⟩] [⟨a9,aA.length,ba,113,1,List.map Value.map bk,0⟩] w'∧Ae.le ef bw∧Be bw b5 bk aA∧Fr.Of w h b5∧Fc b5 df∧Bs ow cG aA aD=some cp) n ?_ ?_
  ·
   exact XY cG ⟨0,cx,cG.length,ix,⟨w,h,A6⟩,([]:List Nat),_,_,rfl,ml.kp,ha,Ae.le_refl _,ki,⟨rfl,rfl⟩,Fc.nil _,gd⟩
  ·
   rintro fv _ pk ⟨aA,aD,a9,ba,bk,b5,df,f1,bw,rfl,mn,dk,gw,c4,ht,hg,bt⟩
   clear gd
   obtain _ | fv:=fv
   ·
    rw [Bs] at bt; cases bt
   rw [Bs] at bt
   refine XT (Aa (Rk 0 1 [tB 22 (decide (aD<((cG.length:Nat):Int))),tI 21 aD,tI 20 ((cG.length:Nat):Int),tP 3 1 0,tP 1 0 0] mn dk fun q4 ff=>?_))
   refine wf (XT (wC (decide (aD<((cG.length:Nat):Int))) ff (fun e8=>?_) (fun e8=>?_)))
   ·
    rw [e8,XW] at bt
    refine wp_skip (XT (wp_block (XT (Aa (Rk 0 2 [tI 4 aD,tI 21 aD,tI 20 ((cG.length:Nat):Int),tP 3 1 0,tP 1 0 0] ff dk fun q5 mo=>?_)))))
    refine wf (Aa (Rk 0 2 [tI 25 aD,tS 24 a9 aA.length ba,tI 21 aD,tI 20 ((cG.length:Nat):Int),tP 3 1 0,tP 1 0 0] mo dk fun q6 mp=>?_))
    refine wl fun K hK=>?_
    refine OB mp dk rfl rfl (by decide) fun bq pg jw (ks:Kn 101 [(d,0),(y,0)] [(26,.one (.c (.map (some bq)))),tI 25 aD,tS 24 a9 aA.length ba,tI 21 aD,tI 20 ((cG.length:Nat):Int),tP 3 1 0,tP 1 0 0] pg) (g3:Ah (Fr.put b5 bq (some (.map #[] 0))) bw [(d,0),(y,0)] [⟨CH f w_ p g q l u z ad aa ae ab af,some 94⟩,⟨[Wu a9 aA.length ba],some 114⟩] [⟨a9,aA.length,ba,113,1,List.map Value.map bk,0⟩] (World.alloc pk (.map #[] 0)))=>?_
    have jb:En bw (#[]:Array MapEntry).toList 0 ([]:List (Int×Rg)):=En.nil
    refine hK _ _ ?_
    obtain⟨gF,jG,bt⟩:=Av bt
    obtain⟨hu,hy,qa⟩:=Ai jG
    have em:=C1 hu hy
    obtain⟨qb,ns⟩:∃ ob,bk[(Wv aD)]? = some ob:=⟨_,Wy (by rw [c4.len]; exact em)⟩
    obtain⟨ca,gl⟩:=CV g3 (i:=0) rfl (b0:=0+(aD:Int).toNat*1) (by show _<(List.map Value.map bk).length; rw [WG,c4.len]; omega)
    have m4:=g3.addPlc (b:=ca) (o:=0+Wv aD*1) (cs:=[]) (fun j c hj=>by simp at hj) rfl (by kernel_rfl) (by kernel_rfl)
    have p3:=LL ns
    refine Bl 3 (aD) rfl rfl (rfl) rfl (by decide) ks (by rfl) (by rfl) (by rfl) gl (by rfl) hu hy (by kernel_rfl) fun fx (kt:Kn 101 [(d,0),(y,0),(ca,0+Wv aD*1)] [tP 27 2 0,(26,.one (.c (.map (some bq)))),tI 25 aD,tS 24 a9 aA.length ba,tI 21 aD,tI 20 ((cG.length:Nat):Int),tP 3 1 0,tP 1 0 0] fx)=>?_
    obtain⟨ct,i3,bt⟩:=Av bt
    obtain⟨p8,p9,h6⟩:=Er i3
    refine wl fun K hK=>?_
    refine EM 0 2 0 (0+(aD:Int).toNat*1) (.c (.map (some bq))) kt m4 rfl rfl (by rfl) (by rfl) rfl rfl gl rfl (by kernel_rfl) (by show 0+(aD:Int).toNat*1+0+1≤(List.map Value.map bk).length; rw [WG,c4.len]; have:=em; omega) fun f2 ku m5=>?_
    have oh:=Vs (bs:=bk) (k:=(Wv aD)) bq (by rw [c4.len]; exact em)
    have m6:Ah (Fr.put b5 bq (some (.map #[] 0))) bw [(d,0),(y,0),(ca,0+Wv aD*1)] [⟨[Wu f w_.lH.lA.length p,Ws w_.lH.turn.lo,Ws w_.lH.turn.hi,Wu g w_.lH.lB.length q,Wu l w_.lH.lC.length u,Ws w_.lH.lI,Ws w_.lH.gap,Ws w_.lH.fr,Ws w_.lH.to_,Wu z w_.acts.lD.length ad,Wu aa w_.acts.lE.length ae,Wu ab w_.acts.lC.length af],some 94⟩,⟨[Wu a9 aA.length ba],some 114⟩,⟨[],none⟩] [⟨a9,aA.length,ba,113,1,List.map Value.map (bk.set (Wv aD) (some bq)),0⟩] f2:=by rw [← oh]; exact m5
    have hl:aA.length=ct.length:=by rw [h6]; simp
    obtain⟨ex,nt,nl,gp,m7⟩:=Be.take c4 m6 jw jb em ht hg
    rw [← h6] at gp
    have kv:Kn 101 [(d,0),(y,0),(ca,0+Wv aD*1)] [(27,.one (.c (.ptr 2 0))),(26,.one (.c (.map (some bq)))),(25,.one (.c (Ws aD))),(24,.one (.c (Wu a9 ct.length ba))),(21,.one (.c (Ws aD))),(20,.one (.c (Ws ((cG.length:Nat):Int)))),(3,.one (.c (.ptr 1 0))),(1,.one (.c (.ptr 0 0)))] fx:=by rw [← hl]; exact ku
    have en:Ah ex bw [(d,0),(y,0),(ca,0+Wv aD*1)] [⟨[.slice f w_.lH.lA.length p,.int .i64 w_.lH.turn.lo,.int .i64 w_.lH.turn.hi,.slice g w_.lH.lB.length q,.slice l w_.lH.lC.length u,.int .i64 w_.lH.lI,.int .i64 w_.lH.gap,.int .i64 w_.lH.fr,.int .i64 w_.lH.to_,.slice z w_.acts.lD.length ad,.slice aa w_.acts.lE.length ae,.slice ab w_.acts.lC.length af],some 94⟩,⟨[.slice a9 ct.length ba],some 114⟩,⟨[],none⟩] [⟨a9,ct.length,ba,113,1,List.map Value.map (bk.set (Wv aD) (some bq)),0⟩] f2:=by rw [← hl]; exact m7
    replace en:Ah ex bw [(d,0),(y,0),(ca,0+Wv aD*1)] [⟨CH f w_ p g q l u z ad aa ae ab af,some 94⟩,⟨[Wu a9 ct.length ba],some 114⟩,⟨[],none⟩] [⟨a9,ct.length,ba,113,1,List.map Value.map (bk.set (Wv aD) (some bq)),0⟩] f2:=en
    refine hK _ _ ?_
    have kw:Kn 101 [(d,0),(y,0),(ca,0+Wv aD*1)] [tI 21 aD,tI 20 ((cG.length:Nat):Int),tP 3 1 0,tP 1 0 0] fx:=kv.kp
    refine wf (Aa (Rk 0 2 [tI 21 (Wt (aD+1)),tI 20 ((cG.length:Nat):Int),tP 3 1 0,tP 1 0 0] kw en fun qe kx=>?_))
    refine wf ?_
    exact XY fv ⟨Xc _,XY ct ⟨Wt (aD+1),a9,ba,bk.set (Wv aD) (some bq),ex,df,_,_,rfl,(kx.keep [21,20,3,1] (by rfl)).cut 2 (by kernel_rfl),en.cutPl 2 (by kernel_rfl),gw,gp,nt,nl,bt⟩⟩
   ·
    rw [e8,XV] at bt
    refine wp_exit ?_
    obtain rfl:=XZ bt
    exact XY a9 ⟨ba,bk,b5,df,_,_,rfl,ff.kp,dk,gw,c4,ht,hg⟩
 ·
  rintro _ rf ⟨cy,c1,d5,cv,d6,f0,cf,rfl,ky,dh,c5,fb,nw,np⟩
  replace av:=av.mono c5
  replace aw:=aw.mono c5
  replace ax:=ax.mono c5
  refine XT (Am (by kernel_rfl) ?_)
  replace dh:=dh.drew
  refine Ao [] [(d,0),(y,0)] [⟨CH f w_ p g q l u z ad aa ae ab af,some 94⟩,⟨[Wu cy cp.length c1],some 114⟩] ?_
  refine Dr [0,1,2,3] (dn 3) [tA 33 [.func (.func 55) #[] #[]],tA 32 (Ja f w_ p g q l u),tA 30 (CH f w_ p g q l u z ad aa ae ab af),tP 3 1 0,tP 1 0 0] ky dh fun qf kz=>?_
  obtain⟨iC,ex34,H⟩:=Av H
  refine Dl 4 fun K hK=>?_
  refine wc [.agg (Ja f w_ p g q l u),.agg [.func (.func 55) #[] #[]]] kz dh (FW n dh.has w_.lH ((Ab (Ad av) (Ab (Ab Ac Ac) (Ab (Ad aw) (Ab (Ad ax) (Ab Ac (Ab Ac (Ab Ac Ac))))))):rep cf w_.lH _) (HJ.mk (fun(y0:Rg)=>Al n y0)) (⟨_,_,_,rfl,(show QW cf (.func (.func 55) #[] #[]) (fun(y0:Rg)=>Al n y0) from fun h2 w2 hle hh y0 cs0 hy0 r H=>⟨55,_,_,rfl,fun _ _=>by kernel_rfl,Bo n hh y0 hy0 H⟩)⟩:rep cf (HJ.mk (fun(y0:Rg)=>Al n y0)) _) ex34) fun q7 gh rg je ci fi=>?_
  replace av:=av.mono ci
  replace aw:=aw.mono ci
  replace ax:=ax.mono ci
  replace bc:=bc.mono (XU c5 ci)
  replace bd:=bd.mono (XU c5 ci)
  replace be:=be.mono (XU c5 ci)
  obtain⟨_,rfl,⟨_,_,rfl,⟨dr,d7,rfl,n7⟩,⟨_,_,rfl,⟨ds,d8,rfl,n8⟩,⟨dt,d9,rfl,n9⟩⟩⟩⟩:=je
  refine⟨.one (.agg (Wr iC dr d7 ds d8 dt d9)),rfl,fun ox (k0:Kn 101 [(d,0),(y,0)] [tA 34 (Wr iC dr d7 ds d8 dt d9),tA 33 [.func (.func 55) #[] #[]],tA 32 (Ja f w_ p g q l u),tA 30 (CH f w_ p g q l u z ad aa ae ab af),tP 3 1 0,tP 1 0 0] ox)=>hK _ _ fi.plOk ?_⟩
  obtain⟨cO,jA,H⟩:=Av H
  refine Dl 5 fun K hK=>?_
  refine wc [.agg (CH f w_ p g q l u z ad aa ae ab af),.agg (Wr iC dr d7 ds d8 dt d9)] k0 fi (DJ n fi.has w_ ((Ab (Ab (Ad av) (Ab (Ab Ac Ac) (Ab (Ad aw) (Ab (Ad ax) (Ab Ac (Ab Ac (Ab Ac Ac))))))) (Ab (Ad bc) (Ab (Ad bd) (Ad be)))):rep gh w_ _) iC ((Ab (Ad n7) (Ab (Ad n8) (Ad n9))):rep gh iC _) jA) fun q8 e2 rh jf cj ck=>?_
  replace av:=av.mono cj
  replace aw:=aw.mono cj
  replace ax:=ax.mono cj
  obtain⟨_,_,rfl,⟨an,ao,rfl,b1⟩,⟨al,am,rfl,b2⟩⟩:=jf
  refine⟨.tup [.c (Wu an cO.1.length ao),.c (Wu al cO.2.length am)],rfl,fun oy (k1:Kn 101 [(d,0),(y,0)] [(35,.tup [.c (Wu an cO.1.length ao),.c (Wu al cO.2.length am)]),tA 34 (Wr iC dr d7 ds d8 dt d9),tA 33 [.func (.func 55) #[] #[]],tA 32 (Ja f w_ p g q l u),tA 30 (CH f w_ p g q l u z ad aa ae ab af),tP 3 1 0,tP 1 0 0] oy)=>hK _ _ ck.plOk ?_⟩
  refine Dr [6,7,8,9,10] (dn 10) [tS 6 al cO.2.length am,tS 5 an cO.1.length ao,tP 3 1 0,tP 1 0 0] k1 ck fun qg k2=>?_
  refine A2 (by kernel_rfl) (XT (Am (by kernel_rfl) ?_))
  replace ck:=ck.drew
  refine Ao [] [(d,0),(y,0)] [⟨CH f w_ p g q l u z ad aa ae ab af,some 94⟩,⟨[Wu cy cp.length c1],some 114⟩] ?_
  refine Dr [0,1,2,3] (dn 3) [tA 42 [.func (.func 56) #[] #[]],tA 41 (Ja f w_ p g q l u),tA 39 (CH f w_ p g q l u z ad aa ae ab af),tS 6 al cO.2.length am,tS 5 an cO.1.length ao,tP 3 1 0,tP 1 0 0] k2 ck fun qh k3=>?_
  obtain⟨iO,ex43,H⟩:=Av H
  refine Dl 4 fun K hK=>?_
  refine wc [.agg (Ja f w_ p g q l u),.agg [.func (.func 56) #[] #[]]] k3 ck (FW n ck.has w_.lH ((Ab (Ad av) (Ab (Ab Ac Ac) (Ab (Ad aw) (Ab (Ad ax) (Ab Ac (Ab Ac (Ab Ac Ac))))))):rep e2 w_.lH _) (HJ.mk (fun(y0:Rg)=>Aw n y0)) (⟨_,_,_,rfl,(show QW e2 (.func (.func 56) #[] #[]) (fun(y0:Rg)=>Aw n y0) from fun h2 w2 hle hh y0 cs0 hy0 r H=>⟨56,_,_,rfl,fun _ _=>by kernel_rfl,C7 n hh y0 hy0 H⟩)⟩:rep e2 (HJ.mk (fun(y0:Rg)=>Aw n y0)) _) ex43) fun q9 gi ri jg bx fj=>?_
  replace av:=av.mono bx
  replace aw:=aw.mono bx
  replace ax:=ax.mono bx
  replace bc:=bc.mono (XU cj bx)
  replace bd:=bd.mono (XU cj bx)
  replace be:=be.mono (XU cj bx)
  obtain⟨_,rfl,⟨_,_,rfl,⟨du,ea,rfl,oa⟩,⟨_,_,rfl,⟨dv,eb,rfl,oc⟩,⟨dw,ec,rfl,od⟩⟩⟩⟩:=jg
  refine⟨.one (.agg (Wr iO du ea dv eb dw ec)),rfl,fun oz (k4:Kn 101 [(d,0),(y,0)] [tA 43 (Wr iO du ea dv eb dw ec),tA 42 [.func (.func 56) #[] #[]],tA 41 (Ja f w_ p g q l u),tA 39 (CH f w_ p g q l u z ad aa ae ab af),tS 6 al cO.2.length am,tS 5 an cO.1.length ao,tP 3 1 0,tP 1 0 0] oz)=>hK _ _ fj.plOk ?_⟩
  obtain⟨cU,iZ,H⟩:=Av H
  refine Dl 5 fun K hK=>?_
  refine wc [.agg (CH f w_ p g q l u z ad aa ae ab af),.agg (Wr iO du ea dv eb dw ec)] k4 fj (DJ n fj.has w_ ((Ab (Ab (Ad av) (Ab (Ab Ac Ac) (Ab (Ad aw) (Ab (Ad ax) (Ab Ac (Ab Ac (Ab Ac Ac))))))) (Ab (Ad bc) (Ab (Ad bd) (Ad be)))):rep gi w_ _) iO ((Ab (Ad oa) (Ab (Ad oc) (Ad od))):rep gi iO _) iZ) fun ra gj rj jh bz eo=>?_
  replace av:=av.mono bz
  replace aw:=aw.mono bz
  replace ax:=ax.mono bz
  replace bc:=bc.mono bz
  replace bd:=bd.mono bz
  replace be:=be.mono bz
  replace b1:=b1.mono (XU bx bz)
  replace b2:=b2.mono (XU bx bz)
  replace fb:=fb.mono (XU (XU (XU ci cj) bx) bz)
  obtain⟨_,_,rfl,⟨ap,ar,rfl,b3⟩,⟨aq,au,rfl,b4⟩⟩:=jh
  refine⟨.tup [.c (Wu ap cU.1.length ar),.c (Wu aq cU.2.length au)],rfl,fun o1 (k5:Kn 101 [(d,0),(y,0)] [(44,.tup [.c (Wu ap cU.1.length ar),.c (Wu aq cU.2.length au)]),tA 43 (Wr iO du ea dv eb dw ec),tA 42 [.func (.func 56) #[] #[]],tA 41 (Ja f w_ p g q l u),tA 39 (CH f w_ p g q l u z ad aa ae ab af),tS 6 al cO.2.length am,tS 5 an cO.1.length ao,tP 3 1 0,tP 1 0 0] o1)=>hK _ _ eo.plOk ?_⟩
  refine Dr [6,7,8,9,10] (dn 10) [tS 8 aq cU.2.length au,tS 7 ap cU.1.length ar,tS 6 al cO.2.length am,tS 5 an cO.1.length ao,tP 3 1 0,tP 1 0 0] k5 eo fun qi k6=>?_
  refine A2 (by kernel_rfl) (XT (XT (Aa (Rk 0 3 ((tI 49 0)::(Du cO an ao aq cU au ap ar al am)) k6 eo fun qj k7=>?_))))
  refine wf ?_
  obtain⟨c9,gc,H⟩:=Av H
  refine A0 (fun a' w'=>∃ (bp:Ww)(br:Nat)(cz:List (Option Nat))(db:Fr)(d4:List Nat)(fy:Array Value)(ee:Ae),a' = ⟨fy,List.map KX d4⟩∧Kn 101 [(d,0),(y,0)] [tP 3 1 0] fy∧Ah db ee [(d,0),(y,0)] [⟨CH f w_ p g q l u z ad aa ae ab af,some 94⟩,⟨[Wu bp c9.length br],some 114⟩] [⟨bp,c9.length,br,113,1,List.map Value.map cz,0⟩] w'∧Ae.le gj ee∧Be ee db cz c9∧Fr.Of w h db∧Fc db d4) ?_ ?_
  ·
   refine wp_block ?_
   refine Au (fun ov a' w'=>∃ (aC:List (Option (List (Int×Rg))))(aB:Int)(cw:Ww)(c0:Nat)(de:List (Option Nat))(cu:Fr)(cb:List Nat)(fz:Array Value)(cd:Ae),a' = ⟨fz,List.map KX cb⟩∧Kn 101 [(d,0),(y,0)] ((tI 49 aB)::(Du cO an ao aq cU au ap ar al am)) fz∧Ah cu cd [(d,0),(y,0)] [⟨CH f w_ p g q l u z ad aa ae ab af,some 94⟩,⟨[Wu cw aC.length c0],some 114⟩] [⟨cw,aC.length,c0,113,1,List.map Value.map de,0⟩] w'∧Ae.le gj cd∧Be cd cu de aC∧Fr.Of w h cu∧Fc cu cb∧Bt ov w_ cO cU aC aB=some c9) n ?_ ?_
   ·
    exact XY cp ⟨0,cy,c1,d5,cv,d6,_,_,rfl,k7.kp,eo,Ae.le_refl _,fb,nw,np,gc⟩
   ·
    rintro co _ rl ⟨aC,aB,cw,c0,de,cu,cb,fz,cd,rfl,k9,er,bn,ei,hs,hf,ay⟩
    clear gc
    obtain _ | co:=co
    ·
     rw [Bt] at ay; cases ay
    rw [Bt] at ay
    replace av:=av.mono bn
    replace aw:=aw.mono bn
    replace ax:=ax.mono bn
    replace bc:=bc.mono bn
    replace bd:=bd.mono bn
    replace be:=be.mono bn
    replace b1:=b1.mono bn
    replace b2:=b2.mono bn
    replace b3:=b3.mono bn
    replace b4:=b4.mono bn
    refine XT (Aa (Rk 0 1 ((tB 50 (decide (aB<((cO.1.length:Nat):Int))))::(tI 49 aB)::(Du cO an ao aq cU au ap ar al am)) k9 er fun ql fc=>?_))
    refine wf (XT (wC (decide (aB<((cO.1.length:Nat):Int))) fc (fun e4=>?_) (fun e4=>?_)))
    ·
     rw [e4,XW] at ay
     refine wp_skip (XT (wp_block (XT (Aa (Rk 0 1 ((tI 51 aB)::(tI 49 aB)::(Du cO an ao aq cU au ap ar al am)) fc er fun qm la=>?_)))))
     obtain⟨cT,kR,ay⟩:=Av ay
     obtain⟨nx,n2,om⟩:=Ai kR
     obtain⟨ac,ag,pu,j1,oi,ka⟩:=b1.get (by decide) om
     obtain⟨_,_,rfl,rfl,⟨_,_,rfl,rfl,rfl⟩⟩:=oi
     have g4:=er.addPlc (b:=ac) (o:=ag+Wv aB*3) (cs:=(Eu cT)) (fun j c hj=>ka j _ (Ak hj)) rfl (by kernel_rfl) (by kernel_rfl)
     refine Bl 1 (aB) rfl rfl (rfl) rfl (by decide) la (by rfl) (by rfl) (by rfl) j1 (by rfl) nx n2 (by kernel_rfl) fun o2 (lc:Kn 101 [(d,0),(y,0),(ac,ag+Wv aB*3)] ((tP 52 2 0)::(tI 51 aB)::(tI 49 aB)::(Du cO an ao aq cU au ap ar al am)) o2)=>?_
     refine Rk 2 1 ((tA 53 (Eu cT))::(tI 51 aB)::(tI 49 aB)::(Du cO an ao aq cU au ap ar al am)) lc g4 fun qn ld=>?_
     refine wl fun K hK=>?_
     refine wa [Ws 0] ld g4 fun ah o3 rm (lf:Kn 101 [(d,0),(y,0),(ac,ag+Wv aB*3),(ah,0)] ((tP 9 3 0)::(tA 53 (Eu cT))::(tI 51 aB)::(tI 49 aB)::(Du cO an ao aq cU au ap ar al am)) o3) m8=>hK _ _ ?_
     refine wl fun K hK=>?_
     refine wa [Ws 0,Ws 0,Ws 0] lf m8 fun ai ia rn (lg:Kn 101 [(d,0),(y,0),(ac,ag+Wv aB*3),(ah,0),(ai,0)] ((tP 10 4 0)::(tP 9 3 0)::(tA 53 (Eu cT))::(tI 51 aB)::(tI 49 aB)::(Du cO an ao aq cU au ap ar al am)) ia) m9=>hK _ _ ?_
     refine wl fun K hK=>?_
     refine EZ 3 0 (.c (Ws aB)) [Ws aB] lg m9 fun ro li na=>hK _ _ ?_
     refine wl fun K hK=>?_
     refine EZ 4 0 (.agg (Eu cT)) (Eu cT) li na fun rp lj di=>hK _ _ ?_
     have lk:Kn 101 [(d,0),(y,0),(ac,ag+Wv aB*3),(ah,0),(ai,0)] ((tP 10 4 0)::(tP 9 3 0)::(tI 49 aB)::(Du cO an ao aq cU au ap ar al am)) ia:=lj.kp
     refine wf (XT (XT (Am (by kernel_rfl) ?_)))
     replace di:=di.drew
     refine Ao [] [(d,0),(y,0),(ac,ag+Wv aB*3),(ah,0),(ai,0)] [⟨CH f w_ p g q l u z ad aa ae ab af,some 94⟩,⟨[Wu cw aC.length c0],some 114⟩,⟨Eu cT,none⟩,⟨[Ws aB],some 3⟩,⟨Eu cT,some 141⟩] ?_
     refine Dr [0,1,2,3,4] (dn 4) ((tI 58 aB)::(tS 57 al cO.2.length am)::(tA 56 (Eu cT))::(tA 55 (Ja f w_ p g q l u))::(tP 9 3 0)::(tI 49 aB)::(Du cO an ao aq cU au ap ar al am)) lk di fun qp ll=>?_
     obtain⟨bW,kS,ay⟩:=Av ay
     obtain⟨ny,n3,oo⟩:=Ai kS
     obtain⟨aj,ak,pv,j2,oj,kb⟩:=b2.get (by decide) oo
     obtain⟨_,_,rfl,⟨az,a0,rfl,dl⟩,rfl⟩:=oj
     have fk:=di.addPlc (b:=aj) (o:=ak+Wv aB*2) (cs:=(JN az bW a0)) (fun j c hj=>kb j _ (Ak hj)) rfl (by kernel_rfl) (by kernel_rfl)
     refine Az 5 (aB) (JN az bW a0) (fun _ _ _ _ _ h=>h) rfl rfl (rfl) rfl (by decide) (by kernel_rfl) (by kernel_rfl) ll di.plOk (by rfl) (by rfl) (by rfl) j2 (by rfl) ny n3 (by kernel_rfl) fun o4 (lm:Kn 101 (KC d y ac ag aB ah ai aj ak) ((tP 59 5 0)::(tI 58 aB)::(tS 57 al cO.2.length am)::(tA 56 (Eu cT))::(tA 55 (Ja f w_ p g q l u))::(tP 9 3 0)::(tI 49 aB)::(Du cO an ao aq cU au ap ar al am)) o4)=>?_
     refine Dr [6] (dn 6) ((tA 60 (JN az bW a0))::(tA 56 (Eu cT))::(tA 55 (Ja f w_ p g q l u))::(tP 9 3 0)::(tI 49 aB)::(Du cO an ao aq cU au ap ar al am)) lm fk fun qq ln=>?_
     obtain⟨cF,ge,ay⟩:=Av ay
     refine Dl 7 fun K hK=>?_
     refine wc [.agg (Ja f w_ p g q l u),.agg (Eu cT),.agg (JN az bW a0)] ln fk (DM co fk.has w_.lH ((Ab (Ad av) (Ab (Ab Ac Ac) (Ab (Ad aw) (Ab (Ad ax) (Ab Ac (Ab Ac (Ab Ac Ac))))))):rep cd w_.lH _) cT ((Ab Ac (Ab Ac Ac)):rep cd cT _) bW ((Ab (Ad dl) Ac):rep cd bW _) ge) fun rc jx da ji bm g5=>?_
     replace av:=av.mono bm
     replace aw:=aw.mono bm
     replace ax:=ax.mono bm
     replace bc:=bc.mono bm
     replace bd:=bd.mono bm
     replace be:=be.mono bm
     replace b1:=b1.mono bm
     replace b2:=b2.mono bm
     replace b3:=b3.mono bm
     replace b4:=b4.mono bm
     replace dl:=dl.mono bm
     replace ei:=ei.mono bm
     obtain⟨dy,dz,d0,rfl,e5,e6,e7⟩:=ji
     refine⟨.one (.c (.func (.func 91) #[] #[.pointer (some ⟨dy,0,none⟩),.pointer (some ⟨dz,0,none⟩),.pointer (some ⟨d0,0,none⟩)])),rfl,fun ib (lp:Kn 101 (KC d y ac ag aB ah ai aj ak) ((61,.one (.c (.func (.func 91) #[] #[.pointer (some ⟨dy,0,none⟩),.pointer (some ⟨dz,0,none⟩),.pointer (some ⟨d0,0,none⟩)])))::(tA 60 (JN az bW a0))::(tA 56 (Eu cT))::(tA 55 (Ja f w_ p g q l u))::(tP 9 3 0)::(tI 49 aB)::(Du cO an ao aq cU au ap ar al am)) ib)=>hK _ _ g5.plOk ?_⟩
     have fd:Kn 101 (KC d y ac ag aB ah ai aj ak) ((61,.one (.c (.func (.func 91) #[] #[.pointer (some ⟨dy,0,none⟩),.pointer (some ⟨dz,0,none⟩),.pointer (some ⟨d0,0,none⟩)])))::(tP 9 3 0)::(tI 49 aB)::(Du cO an ao aq cU au ap ar al am)) ib:=lp.kp
     refine A2 (by kernel_rfl) (wp_block ?_)
     obtain⟨eu,i1,ay⟩:=Av ay
     refine My (.func (.func 91) #[] #[.pointer (some ⟨dy,0,none⟩),.pointer (some ⟨dz,0,none⟩),.pointer (some ⟨d0,0,none⟩)]) fd (by rfl) rfl (fun _ _=>by kernel_rfl) fun cq h3=>?_
     obtain⟨il,my,jn,nb⟩:=Ah.loopBegin g5 hf hs cq
     have jc:Wi (fun(s:List (Option (List (Int×Rg))))(h':Ae)(w':World)=>∃ (Fj:Fr)(a7:Ww)(a8:Nat)(bj:List (Option Nat)),Hq w h Fj ((da).heap.size+1) cq ((da).heap.size::cb)∧Ah Fj h' (KC d y ac ag aB ah ai aj ak) [⟨CH f w_ p g q l u z ad aa ae ab af,some 94⟩,⟨[Wu a7 s.length a8],some 114⟩,⟨Eu cT,none⟩,⟨[Ws aB],some 3⟩,⟨Eu cT,some 141⟩,⟨JN az bW a0,none⟩] [⟨a7,s.length,a8,113,1,List.map Value.map bj,0⟩] w'∧Be h' Fj bj s∧Ae.le jx h'):=⟨fun s h' w' hj=>by obtain⟨_,a7,a8,bj,_,hm,ej,_⟩:=hj; exact hm.has,fun s h' h'' w' w'' hj hb hle hn=>by obtain⟨Fj,a7,a8,bj,hlf,hm,ej,hle0⟩:=hj; exact⟨Fj,a7,a8,bj,hlf,hm.call hb hle hn,ej.mono hle,XU hle0 hle⟩⟩
     have kf:=Be.up ei (fun b es c hb=>jn _ _ hb)
     refine⟨_,Dt co jc (fun(s:List (Option (List (Int×Rg))))(gI:Int)(dC:Int)=>((((Cm s gI).bind fun fJ =>
        (fJ.bind fun fs =>
        ((upd s gI (some (FP fs aB (Rg.mk dC dC)))).bind fun dm =>
        some dm))):Option (List (Option (List (Int×Rg))))).bind fun s1=>some (s1,true))) ?_ aC ⟨il,cw,c0,de,my,nb,kf,Ae.le_refl _⟩ cF.1 e5 cF.2.1 e6 cF.2.2 e7 i1,?_⟩
     ·
      intro s gI dC s' pn c2 ig kn  ey
      obtain⟨im,a7,a8,bj,fg,cl,ej,mu⟩:=kn
      obtain⟨qc,cc,ey⟩:=Av ey
      cases ey
      replace cl:Ah im c2 (KC d y ac ag aB ah ai aj ak) [⟨CH f w_ p g q l u z ad aa ae ab af,some 94⟩,⟨[Wu a7 s.length a8],some 114⟩,⟨Eu cT,none⟩,⟨[Ws aB],some 3⟩,⟨Eu cT,some 141⟩,⟨JN az bW a0,none⟩] [⟨a7,s.length,a8,113,1,List.map Value.map bj,0⟩] ig:=cl
      refine QJ h3 (cl.ext fg.loop) ?_
      have lq:Kn 101 (KC d y ac ag aB ah ai aj ak) [tI 63 dC,tI 62 gI,tP 9 3 0,tP 3 1 0] _:=((fd.kp.put (k:=62) (by decide) (.one (.c (Ws gI)))).put (k:=63) (by decide) (.one (.c (Ws dC))))
      refine QI (Df (by kernel_rfl) (Rk 0 1 [tI 11 gI,tI 63 dC,tP 9 3 0,tP 3 1 0] lq cl fun qr lr=>?_))
      refine wf (Df (by kernel_rfl) (Rk 0 1 [tI 12 dC,tI 11 gI,tP 9 3 0,tP 3 1 0] lr cl fun qs ls=>?_))
      refine wf ?_
      refine⟨cl.ext fg.loop,?_⟩
      obtain⟨io,mz,jo,b7⟩:=Ah.loopStep cl fg { cq with state:=.busy }
      have ek:=Be.up ej jo
      replace b7:Ah io c2 (KC d y ac ag aB ah ai aj ak) [⟨CH f w_ p g q l u z ad aa ae ab af,some 94⟩,⟨[Wu a7 s.length a8],some 114⟩,⟨Eu cT,none⟩,⟨[Ws aB],some 3⟩,⟨Eu cT,some 141⟩,⟨JN az bW a0,none⟩] [⟨a7,s.length,a8,113,1,List.map Value.map bj,0⟩] (World.putObj ig ((da).heap.size+1) (.loop { cq with state:=.busy })):=b7
      refine OE (JD (by kernel_rfl) (by kernel_rfl) ?_)
      replace b7:=b7.drew
      refine Ao [] (KC d y ac ag aB ah ai aj ak) [⟨CH f w_ p g q l u z ad aa ae ab af,some 94⟩,⟨[Wu a7 s.length a8],some 114⟩,⟨Eu cT,none⟩,⟨[Ws aB],some 3⟩,⟨Eu cT,some 141⟩,⟨JN az bW a0,none⟩] ?_
      refine Dr [0,1] [1,0] [tI 65 gI,tS 64 a7 s.length a8,tI 12 dC,tP 9 3 0] ls b7 fun qt lu=>?_
      obtain⟨fJ,ex66,cc⟩:=Av cc
      obtain⟨hv,hz,op⟩:=Ai ex66
      have mq:=C1 hv hz
      obtain⟨ev,hp⟩:∃ ob,bj[(Wv gI)]? = some ob:=⟨_,Wy (by rw [ek.len]; exact mq)⟩
      obtain⟨dc,e3⟩:=CV b7 (i:=0) rfl (b0:=0+(gI:Int).toNat*1) (by show _<(List.map Value.map bj).length; rw [WG,ek.len]; omega)
      have fl:=b7.addPlc (b:=dc) (o:=0+Wv gI*1) (cs:=[]) (fun j c hj=>by simp at hj) rfl (by kernel_rfl) (by kernel_rfl)
      have go:=LL hp
      refine Az 2 (gI) [.map ev] (fun _ _ _ _ _ h=>h) rfl rfl (rfl) rfl (by decide) (by kernel_rfl) (by kernel_rfl) lu b7.plOk (by rfl) (by rfl) (by rfl) e3 (by rfl) hv hz (by kernel_rfl) fun o6 (lw:Kn 101 [(d,0),(y,0),(ac,ag+Wv aB*3),(ah,0),(ai,0),(aj,ak+Wv aB*2),(dc,0+Wv gI*1)] [tP 66 6 0,tI 65 gI,tS 64 a7 s.length a8,tI 12 dC,tP 9 3 0] o6)=>?_
      refine IX [3,4,5,6,7] [7,6,5,4,3,2,1,0] [71,68,67] [tA 71 [Ws dC,Ws dC],tI 68 aB,(67,.one (.c (.map ev)))] (fun _ _ _ _ _ h=>h) lw (Ay.peek fl.plOk fl 0 6 rfl rfl e3 [.map ev] (go _)) (by kernel_rfl) (by rfl) (by kernel_rfl) fun o7 gs=>?_
      obtain⟨fs,iy,cc⟩:=Av cc
      obtain⟨f7,py,pp,gm,gf,i6⟩:=ek.get (i:=(Wv gI)) (m:=fs) (by rw [op,iy])
      obtain rfl:ev=some f7:=by have:=hp.symm.trans gm; simpa using this
      obtain⟨dm,i4,cc⟩:=Av cc
      obtain⟨_,_,h7⟩:=Er i4
      refine Dl 8 fun K hK=>?_
      refine Mu (KT:=3) (E:=44) (k:=(aB:Int)) (x:=((Rg.mk dC dC):Rg)) (.c (Ws aB)) (.agg [Ws dC,Ws dC]) gs fl rfl rfl (by rfl) (by rfl) (by rfl) (by kernel_rfl) (KL.int (by kernel_rfl)) gf i6 rfl ⟨_,rfl,((Ab Ac Ac):rep c2 ((Rg.mk dC dC):Rg) _)⟩ fun pz pq ih i7 nd=>?_
      obtain⟨f3,gx,gq,dj⟩:=Be.changeL ek gm gf i7 nd mz
      rw [← h7] at gq
      have nq:s.length=dm.length:=by rw [h7]; simp
      replace dj:Ah f3 c2 [(d,0),(y,0),(ac,ag+Wv aB*3),(ah,0),(ai,0),(aj,ak+Wv aB*2),(dc,0+Wv gI*1)] [⟨CH f w_ p g q l u z ad aa ae ab af,some 94⟩,⟨[Wu a7 s.length a8],some 114⟩,⟨Eu cT,none⟩,⟨[Ws aB],some 3⟩,⟨Eu cT,some 141⟩,⟨JN az bW a0,none⟩,⟨[],none⟩] [⟨a7,s.length,a8,113,1,List.map Value.map bj,0⟩] ih:=dj
      refine hK _ _ (Ay.peek dj.plOk dj 0 6 rfl rfl e3 [.map (some f7)] (go _)) ?_
      have lx:Kn 101 [(d,0),(y,0),(ac,ag+Wv aB*3),(ah,0),(ai,0),(aj,ak+Wv aB*2),(dc,0+Wv gI*1)] [] o7:=gs.kp
      refine A2 (by kernel_rfl) ?_
      have p4:=lx
      have g6:Ah f3 c2 [(d,0),(y,0),(ac,ag+Wv aB*3),(ah,0),(ai,0),(aj,ak+Wv aB*2),(dc,0+Wv gI*1)] [⟨[.slice f w_.lH.lA.length p,.int .i64 w_.lH.turn.lo,.int .i64 w_.lH.turn.hi,.slice g w_.lH.lB.length q,.slice l w_.lH.lC.length u,.int .i64 w_.lH.lI,.int .i64 w_.lH.gap,.int .i64 w_.lH.fr,.int .i64 w_.lH.to_,.slice z w_.acts.lD.length ad,.slice aa w_.acts.lE.length ae,.slice ab w_.acts.lC.length af],some 94⟩,⟨[.slice a7 dm.length a8],some 114⟩,⟨[.int .i64 cT.stop,.int .i64 cT.tm,.int .i64 cT.lF],none⟩,⟨[.int .i64 aB],some 3⟩,⟨[.int .i64 cT.stop,.int .i64 cT.tm,.int .i64 cT.lF],some 141⟩,⟨[.slice az bW.lA.length a0,.int .i64 bW.turn],none⟩,⟨[],none⟩] [⟨a7,dm.length,a8,113,1,List.map Value.map bj,0⟩] ih:=by rw [← nq]; exact dj
      obtain rfl:=XZ cc
      refine⟨g6.ext gx.loop,?_⟩
      rw [h3.eq]
      obtain⟨ip,m0,jp,nf⟩:=Ah.loopStep g6 gx cq
      have kg:=Be.up gq jp
      exact⟨rfl,c2,Ae.le_refl _,ip,a7,a8,bj,m0,(nf).cutPl 6 (by kernel_rfl),kg,mu⟩
     ·
      intro ph jl
      obtain⟨eg,_,ko⟩:=jl
      obtain⟨pl,dx,ed,f9,gy,g7,kh,bg⟩:=ko
      refine⟨g7.ext gy.loop,?_⟩
      obtain⟨iq,gz,jq,cm⟩:=Ah.loopStep g7 gy { cq with state:=.exhausted }
      have fa:=Be.up kh jq
      replace av:=av.mono bg
      replace aw:=aw.mono bg
      replace ax:=ax.mono bg
      replace b3:=b3.mono bg
      replace b4:=b4.mono bg
      replace cm:Ah iq eg (KC d y ac ag aB ah ai aj ak) [⟨CH f w_ p g q l u z ad aa ae ab af,some 94⟩,⟨[Wu dx eu.length ed],some 114⟩,⟨Eu cT,none⟩,⟨[Ws aB],some 3⟩,⟨Eu cT,some 141⟩,⟨JN az bW a0,none⟩] [⟨dx,eu.length,ed,113,1,List.map Value.map f9,0⟩] (World.putObj ph ((da).heap.size+1) (.loop { cq with state:=.exhausted })):=cm
      refine XT (Am (by kernel_rfl) ?_)
      replace cm:=cm.drew
      refine Ao [] (KC d y ac ag aB ah ai aj ak) [⟨CH f w_ p g q l u z ad aa ae ab af,some 94⟩,⟨[Wu dx eu.length ed],some 114⟩,⟨Eu cT,none⟩,⟨[Ws aB],some 3⟩,⟨Eu cT,some 141⟩,⟨JN az bW a0,none⟩] ?_
      refine Dr [0,1,2,3] (dn 3) ((tI 75 aB)::(tS 74 ap cU.1.length ar)::(tA 73 (Ja f w_ p g q l u))::(tP 9 3 0)::(tI 49 aB)::(Du cO an ao aq cU au ap ar al am)) fd cm fun qu ly=>?_
      obtain⟨fF,ex76,ay⟩:=Av ay
      obtain⟨n0,n5,oq⟩:=Ai ex76
      obtain⟨a1,a2,pw,j3,ok,kc⟩:=b3.get (by decide) oq
      obtain⟨_,_,rfl,rfl,⟨_,_,rfl,rfl,rfl⟩⟩:=ok
      have fm:=cm.addPlc (b:=a1) (o:=a2+Wv aB*3) (cs:=(Eu fF)) (fun j c hj=>kc j _ (Ak hj)) rfl (by kernel_rfl) (by kernel_rfl)
      refine Az 4 (aB) (Eu fF) (fun _ _ _ _ _ h=>h) rfl rfl (rfl) rfl (by decide) (by kernel_rfl) (by kernel_rfl) ly cm.plOk (by rfl) (by rfl) (by rfl) j3 (by rfl) n0 n5 (by kernel_rfl) fun o8 (lz:Kn 101 [(d,0),(y,0),(ac,ag+Wv aB*3),(ah,0),(ai,0),(aj,ak+Wv aB*2),(a1,a2+Wv aB*3)] ((tP 76 6 0)::(tI 75 aB)::(tS 74 ap cU.1.length ar)::(tA 73 (Ja f w_ p g q l u))::(tP 9 3 0)::(tI 49 aB)::(Du cO an ao aq cU au ap ar al am)) o8)=>?_
      refine Dr [5,6,7] (dn 7) ((tI 79 aB)::(tS 78 aq cU.2.length au)::(tA 77 (Eu fF))::(tA 73 (Ja f w_ p g q l u))::(tP 9 3 0)::(tI 49 aB)::(Du cO an ao aq cU au ap ar al am)) lz fm fun qv l0=>?_
      obtain⟨fN,ex80,ay⟩:=Av ay
      obtain⟨n1,n6,os⟩:=Ai ex80
      obtain⟨a4,a6,px,j4,ol,kd⟩:=b4.get (by decide) os
      obtain⟨_,_,rfl,⟨bh,bi,rfl,fq⟩,rfl⟩:=ol
      have fn:=fm.addPlc (b:=a4) (o:=a6+Wv aB*2) (cs:=(JN bh fN bi)) (fun j c hj=>kd j _ (Ak hj)) rfl (by kernel_rfl) (by kernel_rfl)
      refine Az 8 (aB) (JN bh fN bi) (fun _ _ _ _ _ h=>h) rfl rfl (rfl) rfl (by decide) (by kernel_rfl) (by kernel_rfl) l0 fm.plOk (by rfl) (by rfl) (by rfl) j4 (by rfl) n1 n6 (by kernel_rfl) fun o9 (l1:Kn 101 (LZ d y ac ag aB ah ai aj ak a1 a2 a4 a6) ((tP 80 7 0)::(tI 79 aB)::(tS 78 aq cU.2.length au)::(tA 77 (Eu fF))::(tA 73 (Ja f w_ p g q l u))::(tP 9 3 0)::(tI 49 aB)::(Du cO an ao aq cU au ap ar al am)) o9)=>?_
      refine Dr [9] (dn 9) ((tA 81 (JN bh fN bi))::(tA 77 (Eu fF))::(tA 73 (Ja f w_ p g q l u))::(tP 9 3 0)::(tI 49 aB)::(Du cO an ao aq cU au ap ar al am)) l1 fn fun qw l2=>?_
      obtain⟨eK,jZ,ay⟩:=Av ay
      refine Dl 10 fun K hK=>?_
      refine wc [.agg (Ja f w_ p g q l u),.agg (Eu fF),.agg (JN bh fN bi)] l2 fn (DM co fn.has w_.lH ((Ab (Ad av) (Ab (Ab Ac Ac) (Ab (Ad aw) (Ab (Ad ax) (Ab Ac (Ab Ac (Ab Ac Ac))))))):rep eg w_.lH _) fF ((Ab Ac (Ab Ac Ac)):rep eg fF _) fN ((Ab (Ad fq) Ac):rep eg fN _) jZ) fun rd jy dq jk bb g8=>?_
      replace av:=av.mono bb
      replace aw:=aw.mono bb
      replace ax:=ax.mono bb
      replace bc:=bc.mono (XU bg bb)
      replace bd:=bd.mono (XU bg bb)
      replace be:=be.mono (XU bg bb)
      replace b1:=b1.mono (XU bg bb)
      replace b2:=b2.mono (XU bg bb)
      replace b3:=b3.mono bb
      replace b4:=b4.mono bb
      replace dl:=dl.mono (XU bg bb)
      replace e5:=e5.mono (XU bg bb)
      replace e6:=e6.mono (XU bg bb)
      replace e7:=e7.mono (XU bg bb)
      replace fq:=fq.mono bb
      replace fa:=fa.mono bb
      obtain⟨d1,d2,d3,rfl,j6,j7,j8⟩:=jk
      refine⟨.one (.c (.func (.func 91) #[] #[.pointer (some ⟨d1,0,none⟩),.pointer (some ⟨d2,0,none⟩),.pointer (some ⟨d3,0,none⟩)])),rfl,fun ic (l3:Kn 101 (LZ d y ac ag aB ah ai aj ak a1 a2 a4 a6) ((82,.one (.c (.func (.func 91) #[] #[.pointer (some ⟨d1,0,none⟩),.pointer (some ⟨d2,0,none⟩),.pointer (some ⟨d3,0,none⟩)])))::(tA 81 (JN bh fN bi))::(tA 77 (Eu fF))::(tA 73 (Ja f w_ p g q l u))::(tP 9 3 0)::(tI 49 aB)::(Du cO an ao aq cU au ap ar al am)) ic)=>hK _ _ g8.plOk ?_⟩
      have fe:Kn 101 (LZ d y ac ag aB ah ai aj ak a1 a2 a4 a6) ((82,.one (.c (.func (.func 91) #[] #[.pointer (some ⟨d1,0,none⟩),.pointer (some ⟨d2,0,none⟩),.pointer (some ⟨d3,0,none⟩)])))::(tP 9 3 0)::(tI 49 aB)::(Du cO an ao aq cU au ap ar al am)) ic:=l3.kp
      refine A2 (by kernel_rfl) (wp_block ?_)
      obtain⟨fw,i2,ay⟩:=Av ay
      refine My (.func (.func 91) #[] #[.pointer (some ⟨d1,0,none⟩),.pointer (some ⟨d2,0,none⟩),.pointer (some ⟨d3,0,none⟩)]) fe (by rfl) rfl (fun _ _=>by kernel_rfl) fun cr h4=>?_
      obtain⟨ir,m1,jr,ng⟩:=Ah.loopBegin g8 gz.marks gz.of cr
      have jd:Wi (fun(s:List (Option (List (Int×Rg))))(h':Ae)(w':World)=>∃ (Fj:Fr)(a3:Ww)(a5:Nat)(bf:List (Option Nat)),Hq w h Fj ((dq).heap.size+1) cr ((dq).heap.size::((da).heap.size::cb))∧Ah Fj h' (LZ d y ac ag aB ah ai aj ak a1 a2 a4 a6) [⟨CH f w_ p g q l u z ad aa ae ab af,some 94⟩,⟨[Wu a3 s.length a5],some 114⟩,⟨Eu cT,none⟩,⟨[Ws aB],some 3⟩,⟨Eu cT,some 141⟩,⟨JN az bW a0,none⟩,⟨Eu fF,none⟩,⟨JN bh fN bi,none⟩] [⟨a3,s.length,a5,113,1,List.map Value.map bf,0⟩] w'∧Be h' Fj bf s∧Ae.le jy h'):=⟨fun s h' w' hj=>by obtain⟨_,a3,a5,bf,_,hm,el,_⟩:=hj; exact hm.has,fun s h' h'' w' w'' hj hb hle hn=>by obtain⟨Fj,a3,a5,bf,hlf,hm,el,hle0⟩:=hj; exact⟨Fj,a3,a5,bf,hlf,hm.call hb hle hn,el.mono hle,XU hle0 hle⟩⟩
      have kj:=Be.up fa (fun b es c hb=>jr _ _ hb)
      refine⟨_,Dt co jd (fun(s:List (Option (List (Int×Rg))))(eL:Int)(eC:Int)=>((((Cm s eL).bind fun iP =>
         ((Cm s eL).bind fun dX =>
         (dX.bind fun ft =>
         ((some (Fb ft aB ((Rg.mk 0 0):Rg))).bind fun gQ =>
         (iP.bind fun fu =>
         ((upd s eL (some (FP fu aB (Rg.mk gQ.1.lo eC)))).bind fun dp =>
         some dp)))))):Option (List (Option (List (Int×Rg))))).bind fun s1=>some (s1,true))) ?_ eu ⟨ir,dx,ed,f9,m1,ng,kj,Ae.le_refl _⟩ eK.1 j6 eK.2.1 j7 eK.2.2 j8 i2,?_⟩
      ·
       intro s eL eC s' po ce ii kq  ez
       obtain⟨iu,a3,a5,bf,fh,cn,el,mv⟩:=kq
       obtain⟨qd,bl,ez⟩:=Av ez
       cases ez
       replace cn:Ah iu ce (LZ d y ac ag aB ah ai aj ak a1 a2 a4 a6) [⟨CH f w_ p g q l u z ad aa ae ab af,some 94⟩,⟨[Wu a3 s.length a5],some 114⟩,⟨Eu cT,none⟩,⟨[Ws aB],some 3⟩,⟨Eu cT,some 141⟩,⟨JN az bW a0,none⟩,⟨Eu fF,none⟩,⟨JN bh fN bi,none⟩] [⟨a3,s.length,a5,113,1,List.map Value.map bf,0⟩] ii:=cn
       refine QJ h4 (cn.ext fh.loop) ?_
       have l4:Kn 101 (LZ d y ac ag aB ah ai aj ak a1 a2 a4 a6) [tI 84 eC,tI 83 eL,tP 9 3 0,tP 3 1 0] _:=((fe.kp.put (k:=83) (by decide) (.one (.c (Ws eL)))).put (k:=84) (by decide) (.one (.c (Ws eC))))
       refine QI (Df (by kernel_rfl) (Rk 0 1 [tI 13 eL,tI 84 eC,tP 9 3 0,tP 3 1 0] l4 cn fun qx l5=>?_))
       refine wf (Df (by kernel_rfl) (Rk 0 1 [tI 14 eC,tI 13 eL,tP 9 3 0,tP 3 1 0] l5 cn fun qy l6=>?_))
       refine wf ?_
       refine⟨cn.ext fh.loop,?_⟩
       obtain⟨iv,m2,js,b8⟩:=Ah.loopStep cn fh { cr with state:=.busy }
       have ch:=Be.up el js
       replace b8:Ah iv ce (LZ d y ac ag aB ah ai aj ak a1 a2 a4 a6) [⟨CH f w_ p g q l u z ad aa ae ab af,some 94⟩,⟨[Wu a3 s.length a5],some 114⟩,⟨Eu cT,none⟩,⟨[Ws aB],some 3⟩,⟨Eu cT,some 141⟩,⟨JN az bW a0,none⟩,⟨Eu fF,none⟩,⟨JN bh fN bi,none⟩] [⟨a3,s.length,a5,113,1,List.map Value.map bf,0⟩] (World.putObj ii ((dq).heap.size+1) (.loop { cr with state:=.busy })):=b8
       refine OE (JD (by kernel_rfl) (by kernel_rfl) ?_)
       replace b8:=b8.drew
       refine Ao [] (LZ d y ac ag aB ah ai aj ak a1 a2 a4 a6) [⟨CH f w_ p g q l u z ad aa ae ab af,some 94⟩,⟨[Wu a3 s.length a5],some 114⟩,⟨Eu cT,none⟩,⟨[Ws aB],some 3⟩,⟨Eu cT,some 141⟩,⟨JN az bW a0,none⟩,⟨Eu fF,none⟩,⟨JN bh fN bi,none⟩] ?_
       refine Dr [0,1] [1,0] [tI 86 eL,tS 85 a3 s.length a5,tI 14 eC,tI 13 eL,tP 9 3 0,tP 3 1 0] l6 b8 fun qz l7=>?_
       obtain⟨iP,ex87,bl⟩:=Av bl
       obtain⟨hw,h0,ot⟩:=Ai ex87
       have ms:=C1 hw h0
       obtain⟨bo,hq⟩:∃ ob,bf[(Wv eL)]? = some ob:=⟨_,Wy (by rw [ch.len]; exact ms)⟩
       obtain⟨bv,cg⟩:=CV b8 (i:=0) rfl (b0:=0+(eL:Int).toNat*1) (by show _<(List.map Value.map bf).length; rw [WG,ch.len]; omega)
       have c7:=b8.addPlc (b:=bv) (o:=0+Wv eL*1) (cs:=[]) (fun j c hj=>by simp at hj) rfl (by kernel_rfl) (by kernel_rfl)
       have c3:=LL hq
       refine Az 2 (eL) [.map bo] (fun _ _ _ _ _ h=>h) rfl rfl (rfl) rfl (by decide) (by kernel_rfl) (by kernel_rfl) l7 b8.plOk (by rfl) (by rfl) (by rfl) cg (by rfl) hw h0 (by kernel_rfl) fun pb (l8:Kn 101 [(d,0),(y,0),(ac,ag+Wv aB*3),(ah,0),(ai,0),(aj,ak+Wv aB*2),(a1,a2+Wv aB*3),(a4,a6+Wv aB*2),(bv,0+Wv eL*1)] [tP 87 8 0,tI 86 eL,tS 85 a3 s.length a5,tI 14 eC,tI 13 eL,tP 9 3 0,tP 3 1 0] pb)=>?_
       refine IX [3,4,5,6] [6,5,4,3,2,1,0] [91,90,89,88,14,9] [tI 91 eL,tS 90 a3 s.length a5,tI 89 aB,(88,.one (.c (.map bo))),tI 14 eC,tP 9 3 0] (fun _ _ _ _ _ h=>h) l8 (Ay.peek c7.plOk c7 0 8 rfl rfl cg [.map bo] (c3 _)) (by kernel_rfl) (by rfl) (by kernel_rfl) fun q0 l9=>?_
       obtain⟨dX,iI,bl⟩:=Av bl
       obtain⟨hx,h1,ou⟩:=Ai iI
       have mt:=C1 hx h1
       obtain⟨ew,hr⟩:∃ ob,bf[(Wv eL)]? = some ob:=⟨_,Wy (by rw [ch.len]; exact mt)⟩
       obtain⟨b6,dg⟩:=CV c7 (i:=0) rfl (b0:=0+(eL:Int).toNat*1) (by show _<(List.map Value.map bf).length; rw [WG,ch.len]; omega)
       have bu:=c7.addPlc (b:=b6) (o:=0+Wv eL*1) (cs:=[]) (fun j c hj=>by simp at hj) rfl (by kernel_rfl) (by kernel_rfl)
       have eh:=LL hr
       refine Az 7 (eL) [.map ew] (fun _ _ _ _ _ h=>h) rfl rfl (rfl) rfl (by decide) (by kernel_rfl) (by kernel_rfl) l9 (Ay.peek c7.plOk c7 0 8 rfl rfl cg [.map bo] (c3 _)) (by rfl) (by rfl) (by rfl) dg (by rfl) hx h1 (by kernel_rfl) fun pc (mb:Kn 101 (Tv d y ac ag aB ah ai aj ak a1 a2 a4 a6 bv eL b6) [tP 92 9 0,tI 91 eL,tS 90 a3 s.length a5,tI 89 aB,(88,.one (.c (.map bo))),tI 14 eC,tP 9 3 0] pc)=>?_
       refine IX [8,9,12] [12,9,8,7,6,5,4,3,2,1,0] [97,94,93,89,88] [tI 97 eC,tI 94 aB,(93,.one (.c (.map ew))),tI 89 aB,(88,.one (.c (.map bo)))] (fun _ _ _ _ _ h=>h) mb (Ay.peek (Ay.peek bu.plOk bu 0 8 rfl rfl cg [.map bo] (c3 _)) bu 0 9 rfl rfl dg [.map ew] (eh _)) (by kernel_rfl) (by rfl) (by kernel_rfl) fun q1 mc=>?_
       obtain⟨ft,iz,bl⟩:=Av bl
       obtain⟨dd,p0,pr,j9,jt,i8⟩:=ch.get (i:=(Wv eL)) (m:=ft) (by rw [ou,iz])
       obtain rfl:ew=some dd:=by have:=hr.symm.trans j9; simpa using this
       obtain⟨gQ,ex95,bl⟩:=Av bl
       refine Dl 10 fun K hK=>?_
       refine HZ (KT:=3) (E:=44) (k:=(aB:Int)) ((Rg.mk 0 0):Rg) (.c (Ws aB)) mc rfl rfl (by decide) (by rfl) (by rfl) (by kernel_rfl) (KL.int (by kernel_rfl)) (bu.ext jt) i8 rfl (by kernel_rfl) ⟨_,rfl,((Ab Ac Ac):rep ce ((Rg.mk 0 0):Rg) _)⟩ fun re h5=>?_
       rw [XZ ex95] at h5 ⊢
       obtain⟨_,rfl,⟨_,_,rfl,rfl,rfl⟩⟩:=h5
       refine⟨.one (.agg [Ws gQ.1.lo,Ws gQ.1.hi]),rfl,fun pd (md:Kn 101 (Tv d y ac ag aB ah ai aj ak a1 a2 a4 a6 bv eL b6) [tA 95 [Ws gQ.1.lo,Ws gQ.1.hi],tI 97 eC,tI 94 aB,(93,.one (.c (.map (some dd)))),tI 89 aB,(88,.one (.c (.map bo)))] pd)=>hK _ _ (Ay.peek (Ay.peek bu.plOk bu 0 8 rfl rfl cg [.map bo] (c3 _)) bu 0 9 rfl rfl dg [.map (some dd)] (eh _)) ?_⟩
       refine IX [11,13] [13,11,10,12,9,8,7,6,5,4,3,2,1,0] [98,89,88] [tA 98 [Ws gQ.1.lo,Ws eC],tI 89 aB,(88,.one (.c (.map bo)))] (fun _ _ _ _ _ h=>h) md (Ay.peek (Ay.peek bu.plOk bu 0 8 rfl rfl cg [.map bo] (c3 _)) bu 0 9 rfl rfl dg [.map (some dd)] (eh _)) (by kernel_rfl) (by rfl) (by kernel_rfl) fun pe gv=>?_
       obtain⟨fu,i0,bl⟩:=Av bl
       obtain⟨f8,p1,ps,gn,gg,i9⟩:=ch.get (i:=(Wv eL)) (m:=fu) (by rw [ot,i0])
       obtain rfl:bo=some f8:=by have:=hq.symm.trans gn; simpa using this
       obtain⟨dp,i5,bl⟩:=Av bl
       obtain⟨_,_,h9⟩:=Er i5
       refine Dl 14 fun K hK=>?_
       refine Mu (KT:=3) (E:=44) (k:=(aB:Int)) (x:=((Rg.mk gQ.1.lo eC):Rg)) (.c (Ws aB)) (.agg [Ws gQ.1.lo,Ws eC]) gv bu rfl rfl (by rfl) (by rfl) (by rfl) (by kernel_rfl) (KL.int (by kernel_rfl)) gg i9 rfl ⟨_,rfl,((Ab Ac Ac):rep ce ((Rg.mk gQ.1.lo eC):Rg) _)⟩ fun p2 pt ij ja ni=>?_
       obtain⟨f4,g0,gr,c8⟩:=Be.changeL ch gn gg ja ni m2
       rw [← h9] at gr
       have nr:s.length=dp.length:=by rw [h9]; simp
       replace c8:Ah f4 ce (Tv d y ac ag aB ah ai aj ak a1 a2 a4 a6 bv eL b6) [⟨CH f w_ p g q l u z ad aa ae ab af,some 94⟩,⟨[Wu a3 s.length a5],some 114⟩,⟨Eu cT,none⟩,⟨[Ws aB],some 3⟩,⟨Eu cT,some 141⟩,⟨JN az bW a0,none⟩,⟨Eu fF,none⟩,⟨JN bh fN bi,none⟩,⟨[],none⟩,⟨[],none⟩] [⟨a3,s.length,a5,113,1,List.map Value.map bf,0⟩] ij:=c8
       refine hK _ _ (Ay.peek (Ay.peek c8.plOk c8 0 8 rfl rfl cg [.map (some f8)] (c3 _)) c8 0 9 rfl rfl dg [.map (some dd)] (eh _)) ?_
       have mf:Kn 101 (Tv d y ac ag aB ah ai aj ak a1 a2 a4 a6 bv eL b6) [] pe:=gv.kp
       refine A2 (by kernel_rfl) ?_
       have p5:=mf
       have g9:Ah f4 ce [(d,0),(y,0),(ac,ag+Wv aB*3),(ah,0),(ai,0),(aj,ak+Wv aB*2),(a1,a2+Wv aB*3),(a4,a6+Wv aB*2),(bv,0+Wv eL*1),(b6,0+Wv eL*1)] [⟨[.slice f w_.lH.lA.length p,.int .i64 w_.lH.turn.lo,.int .i64 w_.lH.turn.hi,.slice g w_.lH.lB.length q,.slice l w_.lH.lC.length u,.int .i64 w_.lH.lI,.int .i64 w_.lH.gap,.int .i64 w_.lH.fr,.int .i64 w_.lH.to_,.slice z w_.acts.lD.length ad,.slice aa w_.acts.lE.length ae,.slice ab w_.acts.lC.length af],some 94⟩,⟨[.slice a3 dp.length a5],some 114⟩,⟨[.int .i64 cT.stop,.int .i64 cT.tm,.int .i64 cT.lF],none⟩,⟨[.int .i64 aB],some 3⟩,⟨[.int .i64 cT.stop,.int .i64 cT.tm,.int .i64 cT.lF],some 141⟩,⟨[.slice az bW.lA.length a0,.int .i64 bW.turn],none⟩,⟨[.int .i64 fF.stop,.int .i64 fF.tm,.int .i64 fF.lF],none⟩,⟨[.slice bh fN.lA.length bi,.int .i64 fN.turn],none⟩,⟨[],none⟩,⟨[],none⟩] [⟨a3,dp.length,a5,113,1,List.map Value.map bf,0⟩] ij:=by rw [← nr]; exact c8
       obtain rfl:=XZ bl
       refine⟨g9.ext g0.loop,?_⟩
       rw [h4.eq]
       obtain⟨iw,m3,ju,nj⟩:=Ah.loopStep g9 g0 cr
       have kk:=Be.up gr ju
       exact⟨rfl,ce,Ae.le_refl _,iw,a3,a5,bf,m3,(nj).cutPl 8 (by kernel_rfl),kk,mv⟩
      ·
       intro pj jm
       obtain⟨jz,_,kr⟩:=jm
       obtain⟨pm,e0,e1,ga,g1,hc,kl,mw⟩:=kr
       refine⟨hc.ext g1.loop,?_⟩
       obtain⟨f5,g2,jv,et⟩:=Ah.loopStep hc g1 { cr with state:=.exhausted }
       have km:=Be.up kl jv
       replace et:Ah f5 jz (LZ d y ac ag aB ah ai aj ak a1 a2 a4 a6) [⟨CH f w_ p g q l u z ad aa ae ab af,some 94⟩,⟨[Wu e0 fw.length e1],some 114⟩,⟨Eu cT,none⟩,⟨[Ws aB],some 3⟩,⟨Eu cT,some 141⟩,⟨JN az bW a0,none⟩,⟨Eu fF,none⟩,⟨JN bh fN bi,none⟩] [⟨e0,fw.length,e1,113,1,List.map Value.map ga,0⟩] (World.putObj pj ((dq).heap.size+1) (.loop { cr with state:=.exhausted })):=et
       refine Aa (Rk 0 2 ((tI 49 (Wt (aB+1)))::(Du cO an ao aq cU au ap ar al am)) fe et fun q3 mh=>?_)
       refine wf ?_
       exact XY co ⟨Xc _,XY fw ⟨Wt (aB+1),e0,e1,ga,f5,((dq).heap.size::((da).heap.size::cb)),_,_,rfl,(mh.keep [49,48,47,8,7,6,3,1] (by rfl)).cut 2 (by kernel_rfl),et.cutPl 2 (by kernel_rfl),XU bn (XU bm (XU bg (XU bb mw))),km,g2.of,g2.marks,ay⟩⟩
    ·
     rw [e4,XV] at ay
     refine wp_exit ?_
     obtain rfl:=XZ ay
     exact XY cw ⟨c0,de,cu,cb,_,_,rfl,fc.kp,er,bn,ei,hs,hf⟩
  ·
   rintro _ ik ⟨bp,br,cz,db,d4,fy,ee,rfl,mi,hd,p6,ke,nu,nm⟩
   refine XT (Aa (Rk 0 2 [tS 2 bp c9.length br] mi hd fun pf mj=>?_))
   refine wf (wp_ret ?_)
   obtain⟨b9,gb,H⟩:=Av H
   obtain⟨j0,f6,p7,nv,nn,nk,e9⟩:=ke.settleAll hd nu nm gb
   have ho:c9.length=(b9.map DO.mk).length:=by rw [QK gb]; simp
   have mm:Kn 101 [(d,0),(y,0)] [(2,.one (.c (Wu bp ((b9.map DO.mk).length) br)))] pf:=by rw [← ho]; exact mj
   have he:Ah f6 j0 [(d,0),(y,0)] [⟨[.slice f w_.lH.lA.length p,.int .i64 w_.lH.turn.lo,.int .i64 w_.lH.turn.hi,.slice g w_.lH.lB.length q,.slice l w_.lH.lC.length u,.int .i64 w_.lH.lI,.int .i64 w_.lH.gap,.int .i64 w_.lH.fr,.int .i64 w_.lH.to_,.slice z w_.acts.lD.length ad,.slice aa w_.acts.lE.length ae,.slice ab w_.acts.lC.length af],some 94⟩,⟨[.slice bp ((b9.map DO.mk).length) br],some 114⟩] [⟨bp,(b9.map DO.mk).length,br,113,1,List.map Value.map cz,0⟩] ik:=by rw [← ho]; exact nk
   obtain⟨gk,mx,og,fp⟩:=he.settle (i:=0) rfl
   replace e9:=e9.mono mx
   replace fp:Ah f6 gk [(d,0),(y,0)] [⟨CH f w_ p g q l u z ad aa ae ab af,some 94⟩,⟨[Wu bp ((b9.map DO.mk).length) br],some 114⟩] [⟨bp,(b9.map DO.mk).length,br,113,1,List.map Value.map cz,((List.map Value.map cz):Wx).length⟩] ik:=fp
   have oe:A4 gk bp br (b9.map DO.mk):=⟨_,e9,og,he.rowCap (i:=0) rfl⟩
   obtain rfl:=XZ H
   exact RD (bs:=d4) (.one (.c (Wu bp ((b9.map DO.mk).length) br))) mm fp nn nv (by kernel_rfl) ⟨_,_,rfl,oe⟩
end Go.Proofs.YtokchpjijlebiaaGreat
