/- Each call computes its plain function. -/
import Derived.Test.YtokchpjijlebiaaGreatProg
import Derived.Test.YtokchpjijlebiaaGreatRQWP
set_option linter.all false
namespace Go.Proofs.YtokchpjijlebiaaGreat
open Go Go.RowKit
set_option maxRecDepth 100000
set_option maxHeartbeats 4000000
open Rep (rep)
open KRep (kv)
open VRep (rv)
theorem Dt (n:Nat) {h:Ae} {w:World} {σ:Type} {J:σ→Ae→World→Prop} (hJ:Wi J) {l:Nat} (eD:σ→Int→Int→Option (σ×Bool)) (hy:∀ (s:σ)(x0:Int)(x1:Int)(s':σ)(b:Bool)(h:Ae)(w:World),J s h w→eD s x0 x1=some (s',b)→Yields Tryz.prog l #[.int .i64 x0,.int .i64 x1] w (fun c w'=>c=b∧∃ h',Ae.le h h'∧J s' h' w')) (s:σ) (hw:J s h w) (q0:Bj) {bV:Nat} (dB:CY h bV q0) (q1:Af) {eI:Nat} (gB:CY h eI q1) (q2:A8) {eJ:Nat} (gC:CY h eJ q2) {r:σ} (H:AW n eD s q0 q1 q2=some r) :
  Calls Tryz.prog 91 #[.func (.yield l) #[] #[],.pointer (some ⟨bV,0,none⟩),.pointer (some ⟨eI,0,none⟩),.pointer (some ⟨eJ,0,none⟩)] w (fun en w'=>en=.returned (.tuple #[])∧∃ h',Ae.le h h'∧J r h' w'):=by
 obtain⟨_,eX,eY⟩:=id dB
 obtain⟨_,_,rfl,rfl,⟨_,_,rfl,rfl,rfl⟩⟩:=eX
 obtain⟨_,hx_q1,hc_q1⟩:=id gB
 obtain⟨_,_,rfl,⟨d,i,rfl,aa⟩,⟨_,_,rfl,⟨_,_,rfl,rfl,rfl⟩,⟨_,_,rfl,⟨f,k,rfl,ab⟩,⟨_,_,rfl,⟨g,m,rfl,ac⟩,⟨_,_,rfl,rfl,⟨_,_,rfl,rfl,⟨_,_,rfl,rfl,rfl⟩⟩⟩⟩⟩⟩⟩:=hx_q1
 obtain⟨_,hx_q2,hc_q2⟩:=id gC
 obtain⟨_,_,rfl,⟨p,q,rfl,ad⟩,rfl⟩:=hx_q2
 have hh:=hJ.has _ _ _ hw
 refine HL (e:=[(bV,0),(eI,0),(eJ,0)]) 49 [.c (.func (.yield l) #[] #[]),.c (.ptr 0 0),.c (.ptr 1 0),.c (.ptr 2 0)] Tryz.func91 rfl rfl rfl rfl fun t hk=>?_
 have hm:=Ah.begin h w hh
 replace hm:=hm.addPlc (o:=0) (cs:=[Ws q0.stop,Ws q0.tm,Ws q0.lF]) (fun j c hj=>by rw [Xa]; exact eY j _ (Ak hj)) rfl (by kernel_rfl) (by kernel_rfl)
 replace hm:=hm.addPlc (o:=0) (cs:=(Wp q1 d i f k g m)) (fun j c hj=>by rw [Xa]; exact hc_q1 j _ (Ak hj)) rfl (by kernel_rfl) (by kernel_rfl)
 replace hm:=hm.addPlc (o:=0) (cs:=[Wu p q2.lA.length q,Ws q2.turn]) (fun j c hj=>by rw [Xa]; exact hc_q2 j _ (Ak hj)) rfl (by kernel_rfl) (by kernel_rfl)
 replace hm:Ah ⟨w,h,A6⟩ h [(bV,0),(eI,0),(eJ,0)] [⟨Eu q0,none⟩,⟨UB d q1 i f k g m,none⟩,⟨JN p q2 q,none⟩] [] w:=hm
 unfold AW at H
 refine XT (Am (by kernel_rfl) ?_)
 replace hm:=hm.drew
 refine Ao [] [(bV,0),(eI,0),(eJ,0)] [⟨Eu q0,none⟩,⟨UB d q1 i f k g m,none⟩,⟨JN p q2 q,none⟩] ?_
 refine Dr [0,1,2,3,4,5] (dn 5) [tI 6 q0.tm,tI 5 q0.stop,(0,.one (.c (.func (.yield l) #[] #[]))),tP 1 0 0,tP 2 1 0,tP 3 2 0] hk hm fun cr bt=>?_
 refine A2 (by kernel_rfl) ?_
 obtain⟨bh,a9,H⟩:=Av H
 refine A0 (fun a' w'=>∃ (ap:σ)(a7:World)(ax:Ae)(a3:Array Value)(an:Ae),a' = ⟨a3,[]⟩∧Kn 49 [(bV,0),(eI,0),(eJ,0)] [] a3∧Ah ⟨a7,ax,A6⟩ an [(bV,0),(eI,0),(eJ,0)] [⟨Eu q0,none⟩,⟨UB d q1 i f k g m,none⟩,⟨JN p q2 q,none⟩] [] w'∧Ae.le h an∧J ap ax a7∧bh=.go ap) ?_ ?_
 ·
  refine wp_block ?_
  refine Au (fun cf a' w'=>∃ (aA:Int)(aD:Int)(aM:σ)(aq:World)(ao:Ae)(a4:Array Value)(aj:Ae),a' = ⟨a4,[]⟩∧Kn 49 [(bV,0),(eI,0),(eJ,0)] [tI 6 aA,tI 5 aD,(0,.one (.c (.func (.yield l) #[] #[]))),tP 1 0 0,tP 2 1 0,tP 3 2 0] a4∧Ah ⟨aq,ao,A6⟩ aj [(bV,0),(eI,0),(eJ,0)] [⟨Eu q0,none⟩,⟨UB d q1 i f k g m,none⟩,⟨JN p q2 q,none⟩] [] w'∧Ae.le h aj∧J aM ao aq∧AP cf eD q0 q1 q2 aA aD aM=some bh) n ?_ ?_
  ·
   exact XY q0.tm ⟨q0.stop,s,w,h,_,_,rfl,bt.kp,hm,Ae.le_refl _,hw,a9⟩
  ·
   rintro ah _ c5 ⟨aA,aD,aM,aq,ao,a4,aj,rfl,bu,a1,u,ba,a⟩
   clear a9
   obtain _ | ah:=ah
   ·
    rw [AP] at a; cases a
   rw [AP] at a
   replace dB:=dB.mono u
   replace aa:=aa.mono u
   replace ab:=ab.mono u
   replace ac:=ac.mono u
   replace gB:=gB.mono u
   replace ad:=ad.mono u
   replace gC:=gC.mono u
   refine XT (XT ?_)
   obtain⟨ae,z,a⟩:=Av a
   refine A0 (fun a' w'=>∃ (ai:World)(af:Ae)(a5:Array Value)(ak:Ae),a' = ⟨a5,[]⟩∧Kn 49 [(bV,0),(eI,0),(eJ,0)] [tI 6 aA,tI 5 aD,(0,.one (.c (.func (.yield l) #[] #[]))),tP 1 0 0,tP 2 1 0,tP 3 2 0,tB 19 ae.1] a5∧Ah ⟨ai,af,A6⟩ ak [(bV,0),(eI,0),(eJ,0)] [⟨Eu q0,none⟩,⟨UB d q1 i f k g m,none⟩,⟨JN p q2 q,none⟩] [] w'∧Ae.le aj ak∧J ae.2 af ai) ?_ ?_
   ·
    refine Nw ?_
    refine LC 0 2 [12,11,6,5,0,1,2,3] [tI 12 aD,tA 11 (UB d q1 i f k g m),tI 6 aA,tI 5 aD,(0,.one (.c (.func (.yield l) #[] #[]))),tP 1 0 0,tP 2 1 0,tP 3 2 0] bu a1.plOk (by kernel_rfl) fun ct bv=>?_
    obtain⟨iJ,kO,z⟩:=Av z
    refine QC _ rfl (rfl) fun K hK=>?_
    refine wc [.agg (UB d q1 i f k g m),.c (Ws aD)] bv a1 (Dn ah a1.has q1 ((Ab (Ad aa) (Ab (Ab Ac Ac) (Ab (Ad ab) (Ab (Ad ac) (Ab Ac (Ab Ac (Ab Ac Ac))))))):rep aj q1 _) aD kO) fun c2 cm c6 bl y ag=>?_
    replace dB:=dB.mono y
    replace aa:=aa.mono y
    replace ab:=ab.mono y
    replace ac:=ac.mono y
    replace gB:=gB.mono y
    replace ad:=ad.mono y
    replace gC:=gC.mono y
    obtain rfl:=bl
    refine⟨.one (.c (.bool iJ)),rfl,fun ch (bw:Kn 49 [(bV,0),(eI,0),(eJ,0)] [tB 13 iJ,tI 12 aD,tA 11 (UB d q1 i f k g m),tI 6 aA,tI 5 aD,(0,.one (.c (.func (.yield l) #[] #[]))),tP 1 0 0,tP 2 1 0,tP 3 2 0] ch)=>hK _ _ ?_⟩
    refine LC 3 1 [14,6,5,0,1,2,3] [tB 14 iJ,tI 6 aA,tI 5 aD,(0,.one (.c (.func (.yield l) #[] #[]))),tP 1 0 0,tP 2 1 0,tP 3 2 0] bw ag.plOk (by kernel_rfl) fun bj bc=>?_
    rcases Xb (iJ) with al | al
    ·
     rw [al,XW] at z
     have bx:Kn 49 [(bV,0),(eI,0),(eJ,0)] [tB 14 true,tI 6 aA,tI 5 aD,(0,.one (.c (.func (.yield l) #[] #[]))),tP 1 0 0,tP 2 1 0,tP 3 2 0] bj:=(bc.setB 14 true (by rfl) al).kp
     refine LC 4 3 [17,16,15,14,6,5,0,1,2,3] [tI 17 aA,tI 16 aD,(15,.one (.c (.func (.yield l) #[] #[]))),tB 14 true,tI 6 aA,tI 5 aD,(0,.one (.c (.func (.yield l) #[] #[]))),tP 1 0 0,tP 2 1 0,tP 3 2 0] bx ag.plOk (by kernel_rfl) fun cu bd=>?_
     obtain⟨cG,jF,z⟩:=Av z
     refine U1 7 [.c (Ws aD),.c (Ws aA)] _ bd rfl rfl (Aj bd (by kernel_rfl)) rfl (by decide) (by rfl) (by rfl) rfl (hy _ aD aA _ _ _ _ (ag.J hJ ba) jF) fun ck a6 bm ci bz=>?_
     obtain⟨rfl,ar,bf,bb⟩:=bm
     have b0:Kn 49 [(bV,0),(eI,0),(eJ,0)] [tB 18 cG.2,tI 17 aA,tI 16 aD,(15,.one (.c (.func (.yield l) #[] #[]))),tB 14 true,tI 6 aA,tI 5 aD,(0,.one (.c (.func (.yield l) #[] #[]))),tP 1 0 0,tP 2 1 0,tP 3 2 0] ci:=bz.kp
     have bg:Ah ⟨a6,ar,A6⟩ ar [(bV,0),(eI,0),(eJ,0)] [⟨Eu q0,none⟩,⟨UB d q1 i f k g m,none⟩,⟨JN p q2 q,none⟩] [] a6:=ag.rebase bf (hJ.has _ _ _ bb) (by kernel_rfl)
     refine LC 8 1 [19,6,5,0,1,2,3] [tB 19 cG.2,tI 6 aA,tI 5 aD,(0,.one (.c (.func (.yield l) #[] #[]))),tP 1 0 0,tP 2 1 0,tP 3 2 0] b0 bg.plOk (by kernel_rfl) fun cv b1=>?_
     refine MW (by decide) ?_
     obtain rfl:=XZ z
     exact XY a6 ⟨ar,_,_,rfl,b1.kp,bg,XU y bf,bb⟩
    ·
     rw [al,XV] at z
     have b2:Kn 49 [(bV,0),(eI,0),(eJ,0)] [tB 14 false,tI 6 aA,tI 5 aD,(0,.one (.c (.func (.yield l) #[] #[]))),tP 1 0 0,tP 2 1 0,tP 3 2 0] bj:=(bc.setB 14 false (by rfl) al).kp
     refine LC 4 5 [19,6,5,0,1,2,3] [tB 19 false,tI 6 aA,tI 5 aD,(0,.one (.c (.func (.yield l) #[] #[]))),tP 1 0 0,tP 2 1 0,tP 3 2 0] b2 ag.plOk (by kernel_rfl) fun cw b3=>?_
     refine MW (by decide) ?_
     obtain rfl:=XZ z
     exact XY aq ⟨ao,_,_,rfl,b3.kp,ag,y,ba⟩
   ·
    rintro _ c7 ⟨ai,af,a5,ak,rfl,ay,x,v,am⟩
    replace dB:=dB.mono v
    replace aa:=aa.mono v
    replace ab:=ab.mono v
    replace ac:=ac.mono v
    replace gB:=gB.mono v
    replace ad:=ad.mono v
    replace gC:=gC.mono v
    refine wC (ae.1) ay (fun au=>?_) (fun au=>?_)
    ·
     rw [au,XW] at a
     refine wp_skip (wp_block (wp_block (XT (Aa (Rk 0 5 [tB 20 (aD == q0.lF),tI 6 aA,tI 5 aD,(0,.one (.c (.func (.yield l) #[] #[]))),tP 1 0 0,tP 2 1 0,tP 3 2 0] ay x fun cx az=>?_)))))
     refine wf (wC ((aD == q0.lF)) az (fun av=>?_) (fun av=>?_))
     ·
      rw [av,XW] at a
      refine Am (by kernel_rfl) ?_
      replace x:=x.drew
      refine Ao [] [(bV,0),(eI,0),(eJ,0)] [⟨Eu q0,none⟩,⟨UB d q1 i f k g m,none⟩,⟨JN p q2 q,none⟩] ?_
      refine Dr [0,3,5,6,7,8] [8,7,6,5,3,0] [tI 33 (Wt (aA+q2.turn)),tI 28 aD,tA 25 (UB d q1 i f k g m),(0,.one (.c (.func (.yield l) #[] #[]))),tP 1 0 0,tP 2 1 0,tP 3 2 0] az x fun cy b4=>?_
      obtain⟨dY,jC,a⟩:=Av a
      refine Dl 1 fun K hK=>?_
      refine wc [.agg (UB d q1 i f k g m)] b4 x (Cy ah x.has q1 ((Ab (Ad aa) (Ab (Ab Ac Ac) (Ab (Ad ab) (Ab (Ad ac) (Ab Ac (Ab Ac (Ab Ac Ac))))))):rep ak q1 _) jC) fun c3 cn c8 bn b9 a2=>?_
      obtain rfl:=bn
      refine⟨.one (.c (Ws dY)),rfl,fun cj (b5:Kn 49 [(bV,0),(eI,0),(eJ,0)] [tI 26 dY,tI 33 (Wt (aA+q2.turn)),tI 28 aD,tA 25 (UB d q1 i f k g m),(0,.one (.c (.func (.yield l) #[] #[]))),tP 1 0 0,tP 2 1 0,tP 3 2 0] cj)=>hK _ _ a2.plOk ?_⟩
      refine Dr [2,4,9,10] [10,9,4,2,1,8,7,6,5,3,0] [tI 6 (Wt (aA+q2.turn)),tI 5 (Wt ((Wt (dY-1))-aD)),(0,.one (.c (.func (.yield l) #[] #[]))),tP 1 0 0,tP 2 1 0,tP 3 2 0] b5 a2 fun cz b6=>?_
      refine A2 (by kernel_rfl) ?_
      exact XY ah ⟨Xc _,XY (Wt (aA+q2.turn)) ⟨Wt ((Wt (dY-1))-aD),ae.2,ai,af,_,_,rfl,b6.kp,a2,XU u (XU v b9),am,a⟩⟩
     ·
      rw [av,XV] at a
      refine XT (Aa (Rk 0 6 [tB 34 (decide (aD<((q2.lA.length:Nat):Int))),tI 6 aA,tI 5 aD,(0,.one (.c (.func (.yield l) #[] #[]))),tP 1 0 0,tP 2 1 0,tP 3 2 0] az x fun c0 be=>?_))
      refine wf (wC (decide (aD<((q2.lA.length:Nat):Int))) be (fun aw=>?_) (fun aw=>?_))
      ·
       rw [aw,XW] at a
       refine XT (Aa (Rk 0 4 [tI 43 aD,tS 42 p q2.lA.length q,tI 40 aA,tI 5 aD,(0,.one (.c (.func (.yield l) #[] #[]))),tP 1 0 0,tP 2 1 0,tP 3 2 0] be x fun c1 b7=>?_))
       obtain⟨cU,iZ,a⟩:=Av a
       obtain⟨cb,cc,ce⟩:=Ai iZ
       obtain⟨a8,bi,cl,bo,cd,bp⟩:=ad.get (by decide) ce
       obtain rfl:=cd
       have a0:=x.addPlc (b:=a8) (o:=bi+Wv aD*1) (cs:=[Ws cU]) (fun j c hj=>bp j _ (Ak hj)) rfl (by kernel_rfl) (by kernel_rfl)
       refine Bl 4 (aD) rfl rfl (rfl) rfl (by decide) b7 (by rfl) (by rfl) (by rfl) bo (by rfl) cb cc (by kernel_rfl) fun cg (bq:Kn 49 [(bV,0),(eI,0),(eJ,0),(a8,bi+Wv aD*1)] [tP 44 3 0,tI 43 aD,tS 42 p q2.lA.length q,tI 40 aA,tI 5 aD,(0,.one (.c (.func (.yield l) #[] #[]))),tP 1 0 0,tP 2 1 0,tP 3 2 0] cg)=>?_
       refine Rk 5 3 [tI 6 (Wt (aA+cU)),tI 5 aD,(0,.one (.c (.func (.yield l) #[] #[]))),tP 1 0 0,tP 2 1 0,tP 3 2 0] bq a0 fun cp br=>?_
       refine wf (Aa (Rk 0 3 [tI 5 (Wt (aD+1)),tI 6 (Wt (aA+cU)),(0,.one (.c (.func (.yield l) #[] #[]))),tP 1 0 0,tP 2 1 0,tP 3 2 0] br a0 fun cq bs=>?_))
       refine wf ?_
       exact XY ah ⟨Xc _,XY (Wt (aA+cU)) ⟨Wt (aD+1),ae.2,ai,af,_,_,rfl,(bs.keep [6,5,0,1,2,3] (by rfl)).cut 3 (by kernel_rfl),a0.cutPl 3 (by kernel_rfl),XU u v,am,a⟩⟩
      ·
       rw [aw,XV] at a
       refine wp_ret ?_
       obtain rfl:=XZ a
       obtain rfl:=XZ H
       exact VO (J:=fun w'=>∃ h',Ae.le h h'∧J ae.2 h' w') rfl ⟨ak,XU u v,x.J hJ am⟩
    ·
     rw [au,XV] at a
     refine wp_exit ?_
     obtain rfl:=XZ a
     exact XY ae.2 ⟨ai,af,_,_,rfl,ay.kp,x,XU u v,am,rfl⟩
 ·
  rintro _ c4 ⟨ap,a7,ax,a3,an,rfl,co,ca,b8,bk,rfl⟩
  rw [Ex.bind_go] at H
  obtain rfl:=XZ H
  exact VN (J:=fun w'=>∃ h',Ae.le h h'∧J ap h' w') rfl ⟨an,b8,ca.J hJ bk⟩
end Go.Proofs.YtokchpjijlebiaaGreat
