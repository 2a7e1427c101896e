/- Each call computes its plain function. -/
import Derived.Test.YtokchpjijlebiaaGreatProg
import Derived.Test.YtokchpjijlebiaaGreatRQWP
import Derived.Test.YtokchpjijlebiaaGreatRQWR
set_option linter.all false
namespace Go.Proofs.YtokchpjijlebiaaGreat
open Go Go.RowKit
set_option maxRecDepth 100000
set_option maxHeartbeats 4000000
open Rep (rep)
open KRep (kv)
open VRep (rv)
abbrev It (m p q y ad)(af:Nat)(aB:Int)(ab):=([(m,0),(p,0),(q,0),(y,0),(ad,af+Wv aB*1),(ab,0)]:Bh)
abbrev Qk (u)(aC:List Int)(x)(ag:Wx):=([⟨u,aC.length,x,3,1,ag,(ag:Wx).length⟩]:List CO)
abbrev Se (a)(r_:Af)(f d g e k):=([⟨UB a r_ f d g e k,some 48⟩,⟨[Ws 0,Ws 0],some 117⟩,⟨[],none⟩]:List Db)
abbrev Sf (a)(r_:Af)(f d g e k aJ aO cK):=([⟨UB a r_ f d g e k,some 48⟩,⟨[Ws 0,Ws 0],some 117⟩,⟨[],none⟩,⟨[Ws aJ,Ws aO],some 117⟩,⟨[Ws cK],none⟩,⟨[],none⟩]:List Db)
abbrev Jh (a)(r_:Af)(f d g e k ac)(aA:List Int)(ae aK):=([tP 21 2 0,(6,.one (.c (.func (.func 73) #[.agg #[.slice a r_.lA.length f,.int .i64 r_.turn.lo,.int .i64 r_.turn.hi,.slice d r_.lB.length g,.slice e r_.lC.length k,.int .i64 r_.lI,.int .i64 r_.gap,.int .i64 r_.fr,.int .i64 r_.to_]] #[]))),tS 5 ac aA.length ae,tP 4 1 0,tP 2 0 0,(1,.one (.c (.map (some aK))))]:TM)
abbrev G6 (aB)(s:((List Int)×(List (Int×Rg))))(u)(aC:List Int)(x aK):=([tI 40 aB,tI 39 ((s.1.length:Nat):Int),tS 38 u aC.length x,tP 9 3 0,tP 4 1 0,tP 2 0 0,(1,.one (.c (.map (some aK))))]:TM)
abbrev QS (a)(r_:Af)(f d g e k al aK):=([(6,.one (.c (.func (.func 73) #[.agg #[.slice a r_.lA.length f,.int .i64 r_.turn.lo,.int .i64 r_.turn.hi,.slice d r_.lB.length g,.slice e r_.lC.length k,.int .i64 r_.lI,.int .i64 r_.gap,.int .i64 r_.fr,.int .i64 r_.to_]] #[]))),tS 5 al 1 1,tP 4 1 0,tP 2 0 0,(1,.one (.c (.map (some aK))))]:TM)
abbrev QT (a)(r_:Af)(f d g e k aK):=([tP 21 2 0,(6,.one (.c (.func (.func 73) #[.agg #[.slice a r_.lA.length f,.int .i64 r_.turn.lo,.int .i64 r_.turn.hi,.slice d r_.lB.length g,.slice e r_.lC.length k,.int .i64 r_.lI,.int .i64 r_.gap,.int .i64 r_.fr,.int .i64 r_.to_]] #[]))),tP 4 1 0,tP 2 0 0,(1,.one (.c (.map (some aK))))]:TM)
abbrev Gq (aK):=([tP 4 1 0,tP 2 0 0,(1,.one (.c (.map (some aK))))]:TM)
abbrev HP (aH cK aB)(s:((List Int)×(List (Int×Rg))))(u)(aC:List Int)(x aK):=((tP 47 5 0)::(tI 12 aH)::(tI 11 cK)::(G6 aB s u aC x aK):TM)
theorem FN (n:Nat) {h:Ae} {w:World} (hh:Dk h w) (r_:Af) {aP:Wx} (aW:rep h r_ aP) (spans:DO Int Rg) {aK:Nat} {dG:Array MapEntry} {bQ:Nat} (hM_spans:h aK 0=some (EK dG bQ)) (hE_spans:En h dG.toList bQ spans.l) {Q:KP→Prop} (H:CS n r_ spans Q) :
  Calls Tryz.prog 53 #[.agg aP.toArray,.map (some aK)] w (Dq (fun h v=>∃ r,Q r∧∃ cs,v=.agg cs.toArray∧rep h r cs) h w):=by
 obtain⟨_,_,rfl,⟨a,f,rfl,am⟩,⟨_,_,rfl,⟨_,_,rfl,rfl,rfl⟩,⟨_,_,rfl,⟨d,g,rfl,an⟩,⟨_,_,rfl,⟨e,k,rfl,ao⟩,⟨_,_,rfl,rfl,⟨_,_,rfl,rfl,⟨_,_,rfl,rfl,rfl⟩⟩⟩⟩⟩⟩⟩:=aW
 refine enter 74 [.agg (UB a r_ f d g e k),.c (.map (some aK))] Tryz.func53 rfl rfl rfl rfl fun t hk=>?_
 have hm:=Ah.begin h w hh
 unfold CS at H
 refine XT (Aa (wl fun K hK=>?_))
 refine wb (.agg (UB a r_ f d g e k)) hk hm fun m gz i1 (ei:Kn 74 [(m,0)] [tP 2 0 0,tA 0 (UB a r_ f d g e k),(1,.one (.c (.map (some aK))))] gz) f9=>hK _ _ ?_
 refine wl fun K hK=>?_
 refine wa [Ws 0,Ws 0] ei f9 fun p dp i6 (es:Kn 74 [(m,0),(p,0)] [tP 4 1 0,tP 2 0 0,tA 0 (UB a r_ f d g e k),(1,.one (.c (.map (some aK))))] dp) dg=>hK _ _ ?_
 have eu:Kn 74 [(m,0),(p,0)] (Gq aK) dp:=es.kp
 refine wf (XT (Aa (Rk 0 2 ((tI 16 r_.fr)::(Gq aK)) eu dg fun h8 e1=>?_)))
 refine wl fun K hK=>?_
 refine wS 3 1 [Ws r_.fr] e1 dg fun al g4 i8 (e6:Kn 74 [(m,0),(p,0)] ((tS 17 al 1 1)::(tI 16 r_.fr)::(Gq aK)) g4) bg=>?_
 have d6:Ag h ([r_.fr]:List Int) ([.int .i64 r_.fr]:Wx):=⟨_,_,rfl,(Ac:rep h (r_.fr:Int) _),rfl⟩
 refine hK _ _ ?_
 refine Rk 3 1 ((tS 5 al 1 1)::(Gq aK)) e6 bg fun ig fg=>?_
 refine wf (XT (Aa (Rk 0 1 ((tA 18 (UB a r_ f d g e k))::(tS 5 al 1 1)::(Gq aK)) fg bg fun ij fn=>?_)))
 refine Hn 1 #[.agg #[.slice a r_.lA.length f,.int .i64 r_.turn.lo,.int .i64 r_.turn.hi,.slice d r_.lB.length g,.slice e r_.lC.length k,.int .i64 r_.lI,.int .i64 r_.gap,.int .i64 r_.fr,.int .i64 r_.to_]] #[] fn rfl rfl (rfl) rfl (by decide) (by rfl) (by rfl) (by rfl) (by rfl) fun hc (fs:Kn 74 [(m,0),(p,0)] ((19,.one (.c (.func (.func 73) #[.agg #[.slice a r_.lA.length f,.int .i64 r_.turn.lo,.int .i64 r_.turn.hi,.slice d r_.lB.length g,.slice e r_.lC.length k,.int .i64 r_.lI,.int .i64 r_.gap,.int .i64 r_.fr,.int .i64 r_.to_]] #[])))::(tA 18 (UB a r_ f d g e k))::(tS 5 al 1 1)::(Gq aK)) hc)=>?_
 refine Rk 2 1 (QS a r_ f d g e k al aK) fs bg fun im ft=>?_
 refine wf (XT (XT (Aa (Rk 0 1 ((20,.one (.c (.map (some aK))))::(QS a r_ f d g e k al aK)) ft bg fun io fu=>?_))))
 refine wl fun K hK=>?_
 refine PV (KT:=3) (E:=44) (l:=spans.l) fu bg rfl rfl (by decide) (by rfl) (by kernel_rfl) hM_spans hE_spans (by kernel_rfl) fun q ds hr d2 dv (fv:Kn 74 [(m,0),(p,0),(q,0)] ((tP 21 2 0)::(20,.one (.c (.map (some aK))))::(QS a r_ f d g e k al aK)) ds) (gh:Ah (Fr.put ⟨w,h,A6⟩ q (some (.mapIter (some aK) bQ #[] bQ))) h [(m,0),(p,0),(q,0)] (Se a r_ f d g e k) [⟨al,1,1,3,1,([.int .i64 r_.fr]:Wx),0⟩] hr)=>hK _ _ ?_
 have fw:Kn 74 [(m,0),(p,0),(q,0)] ((tP 21 2 0)::(QS a r_ f d g e k al aK)) ds:=fv.kp
 refine wf ?_
 obtain⟨c0,dy,H⟩:=VS (G:=AX n r_ ([r_.fr]:List Int) spans.l) H
 refine A0 (fun a' w'=>∃ (s:(List Int)×(List (Int×Rg)))(au:Ww)(av:Nat)(bl:Wx)(cp:Array Nat)(cv:Array Value)(ax:Ae),a' = ⟨cv,[]⟩∧Kn 74 [(m,0),(p,0),(q,0)] ((tS 5 au s.1.length av)::(Gq aK)) cv∧Ah (Fr.put ⟨w,h,A6⟩ q (some (.mapIter (some aK) bQ cp bQ))) ax [(m,0),(p,0),(q,0)] (Se a r_ f d g e k) [⟨au,s.1.length,av,3,1,bl,0⟩] w'∧Ae.le h ax∧Ag ax s.1 bl∧FU ax dG cp s.2∧c0 s) ?_ ?_
 ·
  refine wp_block ?_
  refine Au (fun gy a' w'=>∃ (aA:List Int)(aD:List (Int×Rg))(ac:Ww)(ae:Nat)(a3:Wx)(a4:Array Nat)(cw:Array Value)(ay:Ae),a' = ⟨cw,[]⟩∧Kn 74 [(m,0),(p,0),(q,0)] (Jh a r_ f d g e k ac aA ae aK) cw∧Ah (Fr.put ⟨w,h,A6⟩ q (some (.mapIter (some aK) bQ a4 bQ))) ay [(m,0),(p,0),(q,0)] (Se a r_ f d g e k) [⟨ac,aA.length,ae,3,1,a3,0⟩] w'∧Ae.le h ay∧Ag ay aA a3∧FU ay dG a4 aD∧AX gy r_ aA aD c0) n ?_ ?_
  ·
   exact XY ([r_.fr]:List Int) ⟨spans.l,al,1,([.int .i64 r_.fr]:Wx),#[],_,_,rfl,fw.kp,gh,Ae.le_refl _,d6,dv,H⟩
  ·
   rintro a7 _ jf ⟨aA,aD,ac,ae,a3,a4,cw,ay,rfl,fx,cj,a1,bd,c6,ai⟩
   obtain _ | a7:=a7
   ·
    rw [AX] at ai; exact ai.elim
   rw [AX] at ai
   replace am:=am.mono a1
   replace an:=an.mono a1
   replace ao:=ao.mono a1
   replace hE_spans:=hE_spans.mono a1
   replace hM_spans:=a1 _ _ _ hM_spans
   refine XT (Aa (wl fun K hK=>?_))
   refine RC fx cj rfl rfl (by decide) (by rfl) (by rfl) hM_spans hE_spans c6 ?_ ?_
   ·
    intro go hd (fy:Kn 74 [(m,0),(p,0),(q,0)] ((22,.tup [.c (.bool false)])::(Jh a r_ f d g e k ac aA ae aK)) hd)
    replace ai:=ai.1 go
    refine hK _ _ ?_
    refine Rk 1 1 ((tB 23 false)::(Jh a r_ f d g e k ac aA ae aK)) fy cj fun ip da=>?_
    refine wf (XT (wC false da (fun hb=>?_) (fun hb=>?_)))
    ·
     cases hb
    refine wp_exit ?_
    exact XY (aA,aD) ⟨ac,ae,a3,a4,_,_,rfl,da.kp,cj,a1,bd,c6,ai⟩
   ·
    intro b0 bj aa ix cn gk gs d9 bo he hs f4 (bx:Ah (Fr.put ⟨w,h,A6⟩ q (some (.mapIter (some aK) bQ (Array.push a4 b0) bQ))) ay [(m,0),(p,0),(q,0)] (Se a r_ f d g e k) [⟨ac,aA.length,ae,3,1,a3,0⟩] hs)
    replace ai:=ai.2 bj aa cn gk
    obtain⟨_,rfl,⟨_,_,rfl,rfl,rfl⟩⟩:=gs
    have fz:Kn 74 [(m,0),(p,0),(q,0)] ((22,.tup [.c (.bool true),.c (Ws bj),.agg (OT aa)])::(Jh a r_ f d g e k ac aA ae aK)) he:=f4 (.tup [.c (.bool true),.c (Ws bj),.agg (OT aa)]) rfl
    refine hK _ _ ?_
    refine Rk 1 1 ((tB 23 true)::(Jh a r_ f d g e k ac aA ae aK)) fz bx fun iq db=>?_
    refine wf (XT (wC true db (fun hb=>?_) (fun hb=>?_)))
    rotate_left
    ·
     cases hb
    refine wp_skip (wp_block (XT (Aa (wl fun K hK=>?_))))
    refine PW db bx rfl rfl (by decide) (by rfl) (by rfl) hM_spans hE_spans d9 fun hf f5=>?_
    have f0:Kn 74 [(m,0),(p,0),(q,0)] ((24,.tup [.c (Ws bj),.agg (OT aa)])::(tB 23 true)::(Jh a r_ f d g e k ac aA ae aK)) hf:=f5 (.tup [.c (Ws bj),.agg (OT aa)]) rfl
    refine hK _ _ ?_
    refine Rk 1 1 ((tA 25 (OT aa))::(Jh a r_ f d g e k ac aA ae aK)) f0 bx fun ir f1=>?_
    refine wl fun K hK=>?_
    refine wa [Ws 0,Ws 0] f1 bx fun a5 dl iy (eb:Kn 74 [(m,0),(p,0),(q,0),(a5,0)] ((tP 8 3 0)::(tA 25 (OT aa))::(Jh a r_ f d g e k ac aA ae aK)) dl) f8=>hK _ _ ?_
    refine wl fun K hK=>?_
    refine EZ 3 0 (.agg (OT aa)) (OT aa) eb f8 fun iz ec cf=>hK _ _ ?_
    have ed:Kn 74 [(m,0),(p,0),(q,0),(a5,0)] ((tP 8 3 0)::(Jh a r_ f d g e k ac aA ae aK)) dl:=ec.kp
    refine wf (XT (Aa (Rk 0 3 ((tI 28 aa.lo)::(26,.one (.c (.func (.func 73) #[.agg #[.slice a r_.lA.length f,.int .i64 r_.turn.lo,.int .i64 r_.turn.hi,.slice d r_.lB.length g,.slice e r_.lC.length k,.int .i64 r_.lI,.int .i64 r_.gap,.int .i64 r_.fr,.int .i64 r_.to_]] #[])))::(tP 8 3 0)::(Jh a r_ f d g e k ac aA ae aK)) ed cf fun hy ee=>?_)))
    obtain⟨eP,kG,ai⟩:=ai
    refine wl fun K hK=>?_
    refine D1 (.func (.func 73) #[.agg #[.slice a r_.lA.length f,.int .i64 r_.turn.lo,.int .i64 r_.turn.hi,.slice d r_.lB.length g,.slice e r_.lC.length k,.int .i64 r_.lI,.int .i64 r_.gap,.int .i64 r_.fr,.int .i64 r_.to_]] #[]) [.c (Ws aa.lo)] _ ee cf rfl rfl (by decide) (by rfl) (by rfl) rfl ((show VZ ay (.func (.func 73) #[.agg #[.slice a r_.lA.length f,.int .i64 r_.turn.lo,.int .i64 r_.turn.hi,.slice d r_.lB.length g,.slice e r_.lC.length k,.int .i64 r_.lI,.int .i64 r_.gap,.int .i64 r_.fr,.int .i64 r_.to_]] #[]) (fun(y0:Int)=>AC a7 r_ y0) from fun h2 w2 hle hh y0 r H=>⟨73,_,_,rfl,fun _ _=>by kernel_rfl,F5 a7 hh r_ (Rep.mono hle ((Ab (Ad am) (Ab (Ab Ac Ac) (Ab (Ad an) (Ab (Ad ao) (Ab Ac (Ab Ac (Ab Ac Ac))))))):rep ay r_ _)) y0 H⟩) _ _ (Ae.le_refl _) cf.has aa.lo _ kG) fun iu b3 i0 dz be cg=>?_
    replace bd:=bd.mono be
    replace bo:=bo.mono be
    replace hM_spans:=be _ _ _ hM_spans
    obtain rfl:=dz
    refine⟨.one (.c (.bool eP)),rfl,fun dm (ef:Kn 74 [(m,0),(p,0),(q,0),(a5,0)] ((tB 29 eP)::(tI 28 aa.lo)::(26,.one (.c (.func (.func 73) #[.agg #[.slice a r_.lA.length f,.int .i64 r_.turn.lo,.int .i64 r_.turn.hi,.slice d r_.lB.length g,.slice e r_.lC.length k,.int .i64 r_.lI,.int .i64 r_.gap,.int .i64 r_.fr,.int .i64 r_.to_]] #[])))::(tP 8 3 0)::(Jh a r_ f d g e k ac aA ae aK)) dm)=>hK _ _ ?_⟩
    have ca:Kn 74 [(m,0),(p,0),(q,0),(a5,0)] ((tB 29 eP)::(tP 8 3 0)::(Jh a r_ f d g e k ac aA ae aK)) dm:=ef.kp
    refine wf (wC (eP) ca (fun b4=>?_) (fun b4=>?_))
    ·
     rw [b4,XW] at ai
     refine Aa (Rk 0 3 ((tI 32 aa.lo)::(tS 30 ac aA.length ae)::(QT a r_ f d g e k aK)) ca cg fun hz eg=>?_)
     refine wl fun K hK=>?_
     refine wS 3 1 [Ws aa.lo] eg cg fun c1 g0 i2 (eh:Kn 74 [(m,0),(p,0),(q,0),(a5,0)] ((tS 33 c1 1 1)::(tI 32 aa.lo)::(tS 30 ac aA.length ae)::(QT a r_ f d g e k aK)) g0) dc=>?_
     have b8:Ag b3 ([aa.lo]:List Int) ([.int .i64 aa.lo]:Wx):=⟨_,_,rfl,(Ac:rep b3 (aa.lo:Int) _),rfl⟩
     refine hK _ _ ?_
     obtain⟨iC,ex34,ai⟩:=ai
     obtain⟨cl,f6⟩:=Bb ex34
     refine wl fun K hK=>?_
     refine AD 0 8 1 _ (iC.length) _ ([.int .i64 aa.lo]:Wx) eh dc rfl rfl (by decide) rfl (by rfl) (by kernel_rfl) (by rfl) (by rfl) (Ag.len b8) (dc.rowCell (i:=1) rfl) b8.one (by rw [cl]; simp <;> omega) (by rw [cl]; exact f6) (by decide) fun bz b1 dt g1 i3 ea (ej:Kn 74 [(m,0),(p,0),(q,0),(a5,0)] ((tS 34 bz iC.length b1)::(tS 33 c1 1 1)::(tI 32 aa.lo)::(tS 30 ac aA.length ae)::(QT a r_ f d g e k aK)) g1) dd=>?_
     have d4:Ag b3 iC (a3++([.int .i64 aa.lo]:Wx)):=by rw [cl]; exact Ag.append bd b8
     obtain rfl:dt=0:=Nat.le_zero.1 ea
     refine hK _ _ ?_
     refine Rk 5 1 ((tS 5 bz iC.length b1)::(QT a r_ f d g e k aK)) ej dd fun h0 ek=>?_
     refine wf ?_
     exact XY a7 ⟨Xc _,XY iC ⟨cn,bz,b1,a3++([.int .i64 aa.lo]:Wx),Array.push a4 b0,_,_,rfl,(ek.keep [21,6,5,4,2,1] (by rfl)).cut 3 (by kernel_rfl),(dd.cutRw 1).cutPl 3 (by kernel_rfl),XU a1 be,d4,bo,ai⟩⟩
    ·
     rw [b4,XV] at ai
     refine wp_skip ?_
     exact XY a7 ⟨Xc _,XY aA ⟨cn,ac,ae,a3,Array.push a4 b0,_,_,rfl,(ca.keep [21,6,5,4,2,1] (by rfl)).cut 3 (by kernel_rfl),cg.cutPl 3 (by kernel_rfl),XU a1 be,bd,bo,ai⟩⟩
 ·
  rintro _ hg ⟨s,au,av,bl,cp,cv,ax,rfl,el,ga,bf,d7,hv,H⟩
  rw [dy] at H
  replace am:=am.mono bf
  replace an:=an.mono bf
  replace ao:=ao.mono bf
  replace hE_spans:=hE_spans.mono bf
  replace hM_spans:=bf _ _ _ hM_spans
  have de:Ah ⟨w,h,A6⟩ ax [(m,0),(p,0),(q,0)] (Se a r_ f d g e k) [⟨au,s.1.length,av,3,1,bl,0⟩] hg:=Ah.dropX d2 ga
  refine XT (Aa (Rk 0 3 ((tA 37 [Ws r_.fr,Ws 0])::(tS 5 au s.1.length av)::(Gq aK)) el de fun h1 em=>?_))
  refine wl fun K hK=>?_
  refine wa [Ws 0,Ws 0] em de fun y dn i4 (en:Kn 74 [(m,0),(p,0),(q,0),(y,0)] ((tP 9 3 0)::(tA 37 [Ws r_.fr,Ws 0])::(tS 5 au s.1.length av)::(Gq aK)) dn) gb=>hK _ _ ?_
  refine wl fun K hK=>?_
  refine EZ 3 0 (.agg [Ws r_.fr,Ws 0]) [Ws r_.fr,Ws 0] en gb fun i5 eo df=>hK _ _ ?_
  have ep:Kn 74 [(m,0),(p,0),(q,0),(y,0)] ((tP 9 3 0)::(tS 5 au s.1.length av)::(Gq aK)) dn:=eo.kp
  refine wf (XT (XT (Aa (Rk 0 3 ((tI 40 0)::(tI 39 ((s.1.length:Nat):Int))::(tS 38 au s.1.length av)::(tP 9 3 0)::(Gq aK)) ep df fun h3 er=>?_))))
  refine wf ?_
  obtain⟨cy,dw,H⟩:=VS (G:=AB n r_ spans s s.1 0 r_.fr 0) H
  refine A0 (fun a' w'=>∃ (aj:(List Int)×Int×Int)(c2:Ww)(c3:Nat)(cx:Wx)(c4:Nat)(cq:Array Value)(ba:Ae),a' = ⟨cq,[]⟩∧Kn 74 [(m,0),(p,0),(q,0),(y,0)] [tP 9 3 0,tP 4 1 0] cq∧Ah ⟨w,h,A6⟩ ba [(m,0),(p,0),(q,0),(y,0)] [⟨UB a r_ f d g e k,some 48⟩,⟨[Ws 0,Ws 0],some 117⟩,⟨[],none⟩,⟨[Ws aj.2.1,Ws aj.2.2],some 117⟩] [⟨c2,aj.1.length,c3,3,1,cx,c4⟩] w'∧Ae.le ax ba∧Ag ba aj.1 cx∧cy aj) ?_ ?_
  ·
   refine wp_block ?_
   refine Au (fun gw a' w'=>∃ (aC:List Int)(aB:Int)(aJ:Int)(aO:Int)(u:Ww)(x:Nat)(ag:Wx)(b2:Nat)(cr:Array Value)(bp:Ae),a' = ⟨cr,[]⟩∧Kn 74 [(m,0),(p,0),(q,0),(y,0)] (G6 aB s u aC x aK) cr∧Ah ⟨w,h,A6⟩ bp [(m,0),(p,0),(q,0),(y,0)] [⟨UB a r_ f d g e k,some 48⟩,⟨[Ws 0,Ws 0],some 117⟩,⟨[],none⟩,⟨[Ws aJ,Ws aO],some 117⟩] [⟨u,aC.length,x,3,1,ag,b2⟩] w'∧Ae.le ax bp∧Ag bp aC ag∧AB gw r_ spans s aC aB aJ aO cy) n ?_ ?_
   ·
    exact XY s.1 ⟨0,r_.fr,0,au,av,bl,0,_,_,rfl,er.kp,df,Ae.le_refl _,d7,H⟩
   ·
    rintro a6 _ hl ⟨aC,aB,aJ,aO,u,x,ag,b2,cr,bp,rfl,et,bs,az,aq,ah⟩
    obtain _ | a6:=a6
    ·
     rw [AB] at ah; exact ah.elim
    rw [AB] at ah
    replace am:=am.mono az
    replace an:=an.mono az
    replace ao:=ao.mono az
    replace hE_spans:=hE_spans.mono az
    replace hM_spans:=az _ _ _ hM_spans
    refine XT (Aa (Rk 0 1 ((tB 41 (decide (aB<((s.1.length:Nat):Int))))::(G6 aB s u aC x aK)) et bs fun h4 cb=>?_))
    refine wf (XT (wC (decide (aB<((s.1.length:Nat):Int))) cb (fun b5=>?_) (fun b5=>?_)))
    ·
     rw [b5,XW] at ah
     refine wp_skip (XT (wp_block (XT (Aa ?_))))
     obtain⟨bb,a0,gp,ch⟩:=bs.settle (i:=0) rfl
     replace am:=am.mono a0
     replace an:=an.mono a0
     replace ao:=ao.mono a0
     replace hE_spans:=hE_spans.mono a0
     replace aq:=aq.mono a0
     replace hM_spans:=a0 _ _ _ hM_spans
     replace ch:Ah ⟨w,h,A6⟩ bb [(m,0),(p,0),(q,0),(y,0)] [⟨UB a r_ f d g e k,some 48⟩,⟨[Ws 0,Ws 0],some 117⟩,⟨[],none⟩,⟨[Ws aJ,Ws aO],some 117⟩] (Qk u aC x ag) hl:=ch
     have ck:A4 bb u x aC:=⟨_,aq,gp,bs.rowCap (i:=0) rfl⟩
     obtain⟨cK,iW,ah⟩:=ah
     obtain⟨gi,gl,gv⟩:=Ai iW
     obtain⟨ad,af,ht,d3,gu,d5⟩:=ck.get (by decide) gv
     obtain rfl:=gu
     have bt:=ch.addPlc (b:=ad) (o:=af+Wv aB*1) (cs:=[Ws cK]) (fun j c hj=>d5 j _ (Ak hj)) rfl (by kernel_rfl) (by kernel_rfl)
     refine Bl 0 (aB) rfl rfl (rfl) rfl (by decide) cb (by rfl) (by rfl) (by rfl) d3 (by rfl) gi gl (by kernel_rfl) fun g2 (ev:Kn 74 [(m,0),(p,0),(q,0),(y,0),(ad,af+Wv aB*1)] ((tP 42 4 0)::(tB 41 (decide (aB<((s.1.length:Nat):Int))))::(G6 aB s u aC x aK)) g2)=>?_
     refine Rk 1 2 ((tI 11 cK)::(G6 aB s u aC x aK)) ev bt fun h5 ew=>?_
     refine wf (XT (Aa (Rk 0 3 ((tI 12 r_.to_)::(tI 11 cK)::(G6 aB s u aC x aK)) ew bt fun h6 ex=>?_)))
     refine wf (XT (XT (Aa (Rk 0 1 ((46,.one (.c (.map (some aK))))::(tI 12 r_.to_)::(tI 11 cK)::(G6 aB s u aC x aK)) ex bt fun h7 ey=>?_))))
     refine wl fun K hK=>?_
     refine PV (KT:=3) (E:=44) (l:=spans.l) ey bt rfl rfl (by decide) (by rfl) (by kernel_rfl) hM_spans hE_spans (by kernel_rfl) fun ab dq hn d1 du (ez:Kn 74 (It m p q y ad af aB ab) ((tP 47 5 0)::(46,.one (.c (.map (some aK))))::(tI 12 r_.to_)::(tI 11 cK)::(G6 aB s u aC x aK)) dq) (gc:Ah (Fr.put ⟨w,h,A6⟩ ab (some (.mapIter (some aK) bQ #[] bQ))) bb (It m p q y ad af aB ab) (Sf a r_ f d g e k aJ aO cK) (Qk u aC x ag) hn)=>hK _ _ ?_
     have e0:Kn 74 (It m p q y ad af aB ab) ((tP 47 5 0)::(tI 12 r_.to_)::(tI 11 cK)::(G6 aB s u aC x aK)) dq:=ez.kp
     refine wf ?_
     obtain⟨cz,dx,ah⟩:=VS (G:=AY a6 cK r_.to_ spans.l) ah
     refine A0 (fun a' w'=>∃ (ap:Int×(List (Int×Rg)))(co:Array Nat)(ct:Array Value)(bc:Ae),a' = ⟨ct,[]⟩∧Kn 74 (It m p q y ad af aB ab) ((tI 12 ap.1)::(tI 11 cK)::(G6 aB s u aC x aK)) ct∧Ah (Fr.put ⟨w,h,A6⟩ ab (some (.mapIter (some aK) bQ co bQ))) bc (It m p q y ad af aB ab) (Sf a r_ f d g e k aJ aO cK) (Qk u aC x ag) w'∧Ae.le bb bc∧FU bc dG co ap.2∧cz ap) ?_ ?_
     ·
      refine wp_block ?_
      refine Au (fun gx a' w'=>∃ (aH:Int)(aL:List (Int×Rg))(a2:Array Nat)(cu:Array Value)(aw:Ae),a' = ⟨cu,[]⟩∧Kn 74 (It m p q y ad af aB ab) (HP aH cK aB s u aC x aK) cu∧Ah (Fr.put ⟨w,h,A6⟩ ab (some (.mapIter (some aK) bQ a2 bQ))) aw (It m p q y ad af aB ab) (Sf a r_ f d g e k aJ aO cK) (Qk u aC x ag) w'∧Ae.le bb aw∧FU aw dG a2 aL∧AY gx cK aH aL cz) a6 ?_ ?_
      ·
       exact XY r_.to_ ⟨spans.l,#[],_,_,rfl,e0.kp,gc,Ae.le_refl _,du,ah⟩
      ·
       rintro bk _ i7 ⟨aH,aL,a2,cu,aw,rfl,e2,ci,ar,c5,ak⟩
       obtain _ | bk:=bk
       ·
        rw [AY] at ak; exact ak.elim
       rw [AY] at ak
       replace am:=am.mono ar
       replace an:=an.mono ar
       replace ao:=ao.mono ar
       replace hE_spans:=hE_spans.mono ar
       replace ck:=ck.mono ar
       replace hM_spans:=ar _ _ _ hM_spans
       replace aq:=aq.mono ar
       refine XT (Aa (wl fun K hK=>?_))
       refine RC e2 ci rfl rfl (by decide) (by rfl) (by rfl) hM_spans hE_spans c5 ?_ ?_
       ·
        intro gn g3 (e3:Kn 74 (It m p q y ad af aB ab) ((48,.tup [.c (.bool false)])::(HP aH cK aB s u aC x aK)) g3)
        replace ak:=ak.1 gn
        refine hK _ _ ?_
        refine Rk 1 1 ((tB 49 false)::(HP aH cK aB s u aC x aK)) e3 ci fun h9 c8=>?_
        refine wf (XT (wC false c8 (fun hb=>?_) (fun hb=>?_)))
        ·
         cases hb
        refine wp_exit ?_
        exact XY (aH,aL) ⟨a2,_,_,rfl,c8.kp,ci,ar,c5,ak⟩
       ·
        intro bm bi z iv cm gj gr d8 bn g5 ho f2 (bu:Ah (Fr.put ⟨w,h,A6⟩ ab (some (.mapIter (some aK) bQ (Array.push a2 bm) bQ))) aw (It m p q y ad af aB ab) (Sf a r_ f d g e k aJ aO cK) (Qk u aC x ag) ho)
        replace ak:=ak.2 bi z cm gj
        obtain⟨_,rfl,⟨_,_,rfl,rfl,rfl⟩⟩:=gr
        have e4:Kn 74 (It m p q y ad af aB ab) ((48,.tup [.c (.bool true),.c (Ws bi),.agg (OT z)])::(HP aH cK aB s u aC x aK)) g5:=f2 (.tup [.c (.bool true),.c (Ws bi),.agg (OT z)]) rfl
        refine hK _ _ ?_
        refine Rk 1 1 ((tB 49 true)::(HP aH cK aB s u aC x aK)) e4 bu fun ia c9=>?_
        refine wf (XT (wC true c9 (fun hb=>?_) (fun hb=>?_)))
        rotate_left
        ·
         cases hb
        refine wp_skip (wp_block (XT (Aa (wl fun K hK=>?_))))
        refine PW c9 bu rfl rfl (by decide) (by rfl) (by rfl) hM_spans hE_spans d8 fun g6 f3=>?_
        have e5:Kn 74 (It m p q y ad af aB ab) ((50,.tup [.c (Ws bi),.agg (OT z)])::(tB 49 true)::(HP aH cK aB s u aC x aK)) g6:=f3 (.tup [.c (Ws bi),.agg (OT z)]) rfl
        refine hK _ _ ?_
        refine Rk 1 1 ((tA 51 (OT z))::(HP aH cK aB s u aC x aK)) e5 bu fun ib e7=>?_
        refine wl fun K hK=>?_
        refine wa [Ws 0,Ws 0] e7 bu fun a9 dr i9 (e8:Kn 74 [(m,0),(p,0),(q,0),(y,0),(ad,af+Wv aB*1),(ab,0),(a9,0)] ((tP 14 6 0)::(tA 51 (OT z))::(HP aH cK aB s u aC x aK)) dr) gd=>hK _ _ ?_
        refine wl fun K hK=>?_
        refine EZ 6 0 (.agg (OT z)) (OT z) e8 gd fun ja e9 bv=>hK _ _ ?_
        have fa:Kn 74 [(m,0),(p,0),(q,0),(y,0),(ad,af+Wv aB*1),(ab,0),(a9,0)] ((tP 14 6 0)::(HP aH cK aB s u aC x aK)) dr:=e9.kp
        refine wf (XT (Aa (Rk 0 4 ((tB 55 (decide (z.lo>cK)))::(tP 14 6 0)::(HP aH cK aB s u aC x aK)) fa bv fun ic cc=>?_)))
        refine wf (wC (decide (z.lo>cK)) cc (fun b6=>?_) (fun b6=>?_))
        ·
         rw [b6,XW] at ak
         refine Aa (Rk 0 3 ((tI 58 z.hi)::(tI 56 aH)::(tP 47 5 0)::(tI 11 cK)::(G6 aB s u aC x aK)) cc bv fun ie fb=>?_)
         refine wl fun K hK=>?_
         refine wS 3 1 [Ws aH,Ws z.hi] fb bv fun a8 g7 hp (fc:Kn 74 [(m,0),(p,0),(q,0),(y,0),(ad,af+Wv aB*1),(ab,0),(a9,0)] ((tS 59 a8 2 2)::(tI 58 z.hi)::(tI 56 aH)::(tP 47 5 0)::(tI 11 cK)::(G6 aB s u aC x aK)) g7) dh=>?_
         have b9:Ag aw ([aH,z.hi]:List Int) ([.int .i64 aH,.int .i64 z.hi]:Wx):=⟨_,_,rfl,(Ac:rep aw (aH:Int) _),⟨_,_,rfl,(Ac:rep aw (z.hi:Int) _),rfl⟩⟩
         refine hK _ _ ?_
         obtain⟨c7,bq,gq,bw⟩:=dh.settle (i:=1) rfl
         replace b9:=b9.mono bq
         replace hM_spans:=bq _ _ _ hM_spans
         replace bw:Ah (Fr.put ⟨w,h,A6⟩ ab (some (.mapIter (some aK) bQ (Array.push a2 bm) bQ))) c7 [(m,0),(p,0),(q,0),(y,0),(ad,af+Wv aB*1),(ab,0),(a9,0)] [⟨UB a r_ f d g e k,some 48⟩,⟨[Ws 0,Ws 0],some 117⟩,⟨[],none⟩,⟨[Ws aJ,Ws aO],some 117⟩,⟨[Ws cK],none⟩,⟨[],none⟩,⟨OT z,some 44⟩] [⟨u,aC.length,x,3,1,ag,(ag:Wx).length⟩,⟨a8,2,2,3,1,([.int .i64 aH,.int .i64 z.hi]:Wx),(([.int .i64 aH,.int .i64 z.hi]:Wx):Wx).length⟩] hp:=bw
         have gm:A4 c7 a8 2 ([aH,z.hi]:List Int):=⟨_,b9,gq,dh.rowCap (i:=1) rfl⟩
         obtain⟨dJ,ex60,ak⟩:=ak
         refine wl fun K hK=>?_
         refine wc [.c (Wu a8 2 2)] fc bw (Fi bk bw.has ([aH,z.hi]:List Int) gm ex60) fun iw hw jb d0 ce di=>?_
         replace bn:=bn.mono (XU bq ce)
         replace hM_spans:=ce _ _ _ hM_spans
         obtain rfl:=d0
         refine⟨.one (.c (Ws dJ)),rfl,fun g8 (fd:Kn 74 [(m,0),(p,0),(q,0),(y,0),(ad,af+Wv aB*1),(ab,0),(a9,0)] ((tI 60 dJ)::(tS 59 a8 2 2)::(tI 58 z.hi)::(tI 56 aH)::(tP 47 5 0)::(tI 11 cK)::(G6 aB s u aC x aK)) g8)=>hK _ _ ?_⟩
         refine Rk 5 1 ((tI 12 dJ)::(tP 47 5 0)::(tI 11 cK)::(G6 aB s u aC x aK)) fd di fun ih fe=>?_
         refine wf ?_
         exact XY bk ⟨Xc _,XY dJ ⟨cm,Array.push a2 bm,_,_,rfl,(fe.keep [47,12,11,40,39,38,9,4,2,1] (by rfl)).cut 6 (by kernel_rfl),(di.cutRw 1).cutPl 6 (by kernel_rfl),XU ar (XU bq ce),bn,ak⟩⟩
        ·
         rw [b6,XV] at ak
         refine wp_skip ?_
         exact XY bk ⟨Xc _,XY aH ⟨cm,Array.push a2 bm,_,_,rfl,(cc.keep [47,12,11,40,39,38,9,4,2,1] (by rfl)).cut 6 (by kernel_rfl),bv.cutPl 6 (by kernel_rfl),ar,bn,ak⟩⟩
     ·
      rintro _ hq ⟨ap,co,ct,bc,rfl,ff,gf,br,hu,ah⟩
      rw [dx] at ah
      replace hM_spans:=br _ _ _ hM_spans
      replace aq:=aq.mono br
      have bh:Ah ⟨w,h,A6⟩ bc (It m p q y ad af aB ab) (Sf a r_ f d g e k aJ aO cK) (Qk u aC x ag) hq:=Ah.dropX d1 gf
      refine XT (Aa (Rk 0 6 ((tB 66 (decide ((IntKind.i64.wrap (ap.1-cK))>aO)))::(tI 12 ap.1)::(tI 11 cK)::(G6 aB s u aC x aK)) ff bh fun ii cd=>?_))
      refine wf (wC (decide ((IntKind.i64.wrap (ap.1-cK))>aO)) cd (fun b7=>?_) (fun b7=>?_))
      ·
       rw [b7,XW] at ah
       refine Aa (Rk 0 5 ((tA 71 [Ws cK,Ws (IntKind.i64.wrap (ap.1-cK))])::(G6 aB s u aC x aK)) cd bh fun g9 fh=>?_)
       refine wl fun K hK=>?_
       refine EZ 3 0 (.agg [Ws cK,Ws (IntKind.i64.wrap (ap.1-cK))]) [Ws cK,Ws (IntKind.i64.wrap (ap.1-cK))] fh bh fun jc fi dj=>hK _ _ ?_
       have fj:Kn 74 (It m p q y ad af aB ab) (G6 aB s u aC x aK) g9:=fi.kp
       refine wf (Aa (Rk 0 2 ((tI 40 (IntKind.i64.wrap (aB+1)))::(tI 39 ((s.1.length:Nat):Int))::(tS 38 u aC.length x)::(tP 9 3 0)::(Gq aK)) fj dj fun ik fk=>?_))
       refine wf ?_
       exact XY a6 ⟨Xc _,XY aC ⟨IntKind.i64.wrap (aB+1),cK,IntKind.i64.wrap (ap.1-cK),u,x,ag,(ag:Wx).length,_,_,rfl,(fk.keep [40,39,38,9,4,2,1] (by rfl)).cut 4 (by kernel_rfl),dj.cutPl 4 (by kernel_rfl),XU az (XU a0 br),aq,ah⟩⟩
      ·
       rw [b7,XV] at ah
       refine wp_skip (Aa (Rk 0 2 ((tI 40 (IntKind.i64.wrap (aB+1)))::(tI 39 ((s.1.length:Nat):Int))::(tS 38 u aC.length x)::(tP 9 3 0)::(Gq aK)) cd bh fun il fl=>?_))
       refine wf ?_
       exact XY a6 ⟨Xc _,XY aC ⟨IntKind.i64.wrap (aB+1),aJ,aO,u,x,ag,(ag:Wx).length,_,_,rfl,(fl.keep [40,39,38,9,4,2,1] (by rfl)).cut 4 (by kernel_rfl),bh.cutPl 4 (by kernel_rfl),XU az (XU a0 br),aq,ah⟩⟩
    ·
     rw [b5,XV] at ah
     refine wp_exit ?_
     exact XY (aC,aJ,aO) ⟨u,x,ag,b2,_,_,rfl,cb.kp,bs,az,aq,ah⟩
  ·
   rintro _ jd ⟨aj,c2,c3,cx,c4,cq,ba,rfl,fm,dk,f7,hx,H⟩
   rw [dw] at H
   replace hM_spans:=f7 _ _ _ hM_spans
   refine XT (Aa (Rk 0 1 [tA 73 [Ws aj.2.1,Ws aj.2.2],tP 4 1 0] fm dk fun ha fo=>?_))
   refine wl fun K hK=>?_
   refine EZ 1 0 (.agg [Ws aj.2.1,Ws aj.2.2]) [Ws aj.2.1,Ws aj.2.2] fo dk fun je fp gg=>hK _ _ ?_
   have fq:Kn 74 [(m,0),(p,0),(q,0),(y,0)] [tP 4 1 0] ha:=fp.kp
   refine wf (wp_ret ?_)
   exact rt (.one (.agg [Ws aj.2.1,Ws aj.2.2])) fq gg ⟨_,H,⟨_,rfl,((Ab Ac Ac):rep ba ((KP.mk aj.2.1 aj.2.2):KP) _)⟩⟩
theorem JX (n:Nat) (a b:Int):C9 (n+2) [a,b]=some (min a b):=by
  have h0:Cm [a,b] 0=some a:=by simp [Cm]
  have h1:Cm [a,b] 1=some b:=by simp [Cm]
  simp only [C9,Ej,Cd,h0,h1,WT,List.length_nil,XX]
  have e1:IntKind.i64.wrap (1+1)=2:=by decide
  have e2:decide ((1:Int)<((0+1+1:Nat):Int))=true:=by decide
  have e3:decide ((2:Int)<((0+1+1:Nat):Int))=false:=by decide
  have e4:decide (((0+1+1:Nat):Int)<1)=false:=by decide
  simp only [e1,e2,e3,e4,XW,XV,XX,Option.some.injEq]
  split <;> omega
theorem Hw {m e:Int} {l l':List (Int×Rg)} (h:l.Perm l'):A3 m e l=A3 m e l':=h.foldl_eq' (fun p _ q _ e=>by
  repeat' split
  all_goals omega) _
theorem C4:∀ (n:Nat)(rem:List (Int×Rg))(m e:Int)(K:(Int×List (Int×Rg))→Prop),rem.length+3≤n→K (A3 m e rem,[])→AY n m e rem K
  | 0,_,_,_,_,h,_=>by omega
  | n+1,rem,m,e,K,h,hK=>by
    rw [AY]
    refine⟨fun h0=>by subst h0; exact hK,fun k x rem' hp=>?_⟩
    have hl:=hp.length_eq
    simp at hl
    rw [Hw hp] at hK
    by_cases hx:x.lo>m
    · simp only [hx,decide_true,XW]
      obtain⟨n,rfl⟩:∃ k,n=k+2:=⟨n-2,by omega⟩
      refine⟨_,JX n e x.hi,C4 _ _ _ _ _ (by omega) ?_⟩
      simpa [A3,hx] using hK
    · simp only [hx,decide_false,XV]
      refine C4 _ _ _ _ _ (by omega) ?_
      simpa [A3,hx] using hK
theorem C5:∀ (n:Nat)(rem:List (Int×Rg))(r:Af)(acc:List Int)(K:(List Int×List (Int×Rg))→Prop),rem.length+1≤n→acc.length+rem.length≤1000000000→(∀ ms,List.Perm ms (acc++(rem.filter fun p=>decide (r.fr≤p.2.lo) && decide (p.2.lo≤r.to_)).map fun p=>p.2.lo)→K (ms,[]))→AX n r acc rem K
  | 0,_,_,_,_,h,_,_=>by omega
  | n+1,rem,r,acc,K,h,hb,hK=>by
    rw [AX]
    refine⟨fun h0=>by subst h0; exact hK _ (by simp),fun k x rem' hp=>?_⟩
    have hl:=hp.length_eq
    simp at hl
    have hw:AC n r x.lo=some (decide (r.fr≤x.lo) && decide (x.lo≤r.to_)):=by
      simp only [AC,Bq]; by_cases h1:r.fr≤x.lo <;> simp [h1]
    refine⟨_,hw,?_⟩
    have hq:=(hp.filter fun p=>decide (r.fr≤p.2.lo) && decide (p.2.lo≤r.to_)).map fun p=>p.2.lo
    cases hc:(decide (r.fr≤x.lo) && decide (x.lo≤r.to_)) with
    | true =>
      simp only [XW]
      refine⟨acc++[x.lo],by simp [Jj]; omega,C5 _ _ _ _ _ (by omega) (by simp; omega) fun ms hm=>hK ms (hm.trans ?_)⟩
      rw [List.filter_cons_of_pos (by exact hc)] at hq
      simpa using (hq.symm.append_left acc)
    | false =>
      simp only [XV]
      refine C5 _ _ _ _ _ (by omega) (by omega) fun ms hm=>hK ms (hm.trans ?_)
      rw [List.filter_cons_of_neg (by simp [hc])] at hq
      exact hq.symm.append_left acc
theorem Dv:∀ (n:Nat)(r:Af)(sp:DO Int Rg)(s:List Int×List (Int×Rg))(i:Nat)(b x:Int)(K:(List Int×Int×Int)→Prop),(s.1.length-i)+sp.l.length+4≤n→s.1.length<2000000000→i≤s.1.length →
    (∀ b',K (s.1,b',(s.1.drop i).foldl (fun b m=>max b (IntKind.i64.wrap (A3 m r.to_ sp.l-m))) x))→AB n r sp s s.1 (i:Int) b x K
  | 0,_,_,_,_,_,_,_,h,_,_,_=>by omega
  | n+1,r,sp,s,i,b,x,K,h,hb,hi,hK=>by
    rw [AB]
    by_cases hx:i<s.1.length
    · rw [show decide ((i:Int)<((s.1.length:Nat):Int))=true by simpa using hx]
      have hw:IntKind.i64.wrap ((i:Int)+1)=((i+1:Nat):Int):=by
        rw [show((i+1:Nat):Int)=(i:Int)+1 by omega]
        simp only [IntKind.wrap]
        simp [IntKind.bits,IntKind.signed]; omega
      refine⟨s.1[i],by simp [Cm,hx],C4 _ _ _ _ _ (by omega) ?_⟩
      rw [List.drop_eq_getElem_cons hx] at hK
      simp only [WS] at hK
      by_cases hg:IntKind.i64.wrap (A3 s.1[i] r.to_ sp.l-s.1[i])>x
      · simp only [hg,decide_true,XW,hw]
        rw [show max x (IntKind.i64.wrap (A3 s.1[i] r.to_ sp.l-s.1[i]))=IntKind.i64.wrap (A3 s.1[i] r.to_ sp.l-s.1[i]) by omega] at hK
        exact Dv _ _ _ _ _ _ _ _ (by omega) hb (by omega) hK
      · simp only [hg,decide_false,XV,hw]
        rw [show max x (IntKind.i64.wrap (A3 s.1[i] r.to_ sp.l-s.1[i]))=x by omega] at hK
        exact Dv _ _ _ _ _ _ _ _ (by omega) hb (by omega) hK
    · obtain rfl:i=s.1.length:=by omega
      simp only [Int.lt_irrefl,decide_false,XV]
      simpa using hK b
theorem IJ {n:Nat} {r:Af} {sp:DO Int Rg} {x:Int} (H:BS n r sp=some x):CS n r sp (fun q=>q.long=x):=by
  unfold BS at H
  split at H
  · rename_i hb
    cases H
    refine C5 _ _ _ _ _ (by omega) (by simp; omega) fun ms hm=>?_
    have hl:=hm.length_eq
    have hf:((sp.l.filter fun p=>decide (r.fr≤p.2.lo) && decide (p.2.lo≤r.to_)).map fun p=>p.2.lo).length≤sp.l.length:=by rw [WG]; exact List.length_filter_le _ _
    simp only [WU,WT,List.length_nil] at hl
    refine Dv n r sp (ms,[]) 0 _ _ _ (by simp only; omega) (by simp only; omega) (by simp) fun b'=>?_
    simp only [W3]
    have:∀ (l:List Int)(z:Int),l.foldl (fun b m=>max b (IntKind.i64.wrap (A3 m r.to_ sp.l-m))) z=(l.map fun m=>IntKind.i64.wrap (A3 m r.to_ sp.l-m)).foldl (fun b x=>max b x) z:=by
      intro l z; rw [List.foldl_map]
    rw [this,this]
    exact(hm.map _).foldl_eq' (fun p _ q _ e=>by omega) _
  · cases H
theorem F6 (n:Nat) {h:Ae} {w:World} (hh:Dk h w) (r_:Af) {aP:Wx} (aW:rep h r_ aP) (spans:DO Int Rg) {aK:Nat} {dG:Array MapEntry} {bQ:Nat} (hM_spans:h aK 0=some (EK dG bQ)) (hE_spans:En h dG.toList bQ spans.l) {x:Int} (H:BS n r_ spans=some x) :
    Calls Tryz.prog 53 #[.agg aP.toArray,.map (some aK)] w (Dq (fun _ v=>∃ fr,v=.agg #[.int .i64 fr,.int .i64 x]) h w) :=
  (FN n hh r_ aW spans hM_spans hE_spans (IJ H)).mono fun en w' ⟨v,h',h1,h3,h4,h5,h2⟩=>⟨v,h',h1,h3,h4,h5,by
    obtain⟨q,hq,cs,hv,hx⟩:=h2
    obtain⟨_,_,rfl,rfl,rfl⟩:=hx
    exact⟨q.fr,by rw [hv,← hq]; rfl⟩⟩
end Go.Proofs.YtokchpjijlebiaaGreat
