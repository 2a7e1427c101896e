/- Each call computes its plain function. -/
import Derived.Test.YtokchpjijlebiaaGreatProg
import Derived.Test.YtokchpjijlebiaaGreatRQWP
set_option linter.all false
namespace Go.Proofs.YtokchpjijlebiaaGreat
open Go Go.RowKit
set_option maxRecDepth 100000
set_option maxHeartbeats 4000000
open Rep (rep)
open KRep (kv)
open VRep (rv)
abbrev DW (aR aS aU bA a f):=([(aR,0),(aS,0),(aU,0),(bA,0),(a,0),(f,0)]:Bh)
abbrev UV (c:Bn)(aA:Int):=([Ws (IntKind.i64.wrap (c.lJ+(if 1<aA then 1 else aA))),Ws (IntKind.i64.wrap (c.sum+aA))]:List SC)
abbrev Pj (aR aS aU bA a f ag)(aj:Nat)(at_:Int)(lB:Int):=([(aR,0),(aS,0),(aU,0),(bA,0),(a,0),(f,0),(ag,aj+(IntKind.i64.wrap (at_-lB):Int).toNat*3)]:Bh)
abbrev UW (c:Bn)(aC:Int):=([Ws (IntKind.i64.wrap (c.lJ+(if 1<(IntKind.i64.wrap (aC+1)) then 1 else(IntKind.i64.wrap (aC+1))))),Ws c.sum]:List SC)
abbrev Ns (aR aS aU bA):=([.func (.func 80) #[] #[.pointer (some ⟨aR,0,none⟩),.pointer (some ⟨aS,0,none⟩),.pointer (some ⟨aU,0,none⟩),.pointer (some ⟨bA,0,none⟩)]]:List SC)
abbrev Tw (aa:AS)(d:Ar):=([Ws aa.a0,Ws aa.a1,Ws aa.a2,Ws aa.a3,Ws d.lE.a0,Ws d.lE.a1,Ws d.lE.a2,Ws d.lE.a3,.bool d.lC.a0,.bool d.lC.a1]:List SC)
abbrev V6 (d:Ar)(aB:AS):=([Ws d.lD.a0,Ws d.lD.a1,Ws d.lD.a2,Ws d.lD.a3,Ws aB.a0,Ws aB.a1,Ws aB.a2,Ws aB.a3,.bool d.lC.a0,.bool d.lC.a1]:List SC)
abbrev QV (d:Ar)(af:Bd):=([Ws d.lD.a0,Ws d.lD.a1,Ws d.lD.a2,Ws d.lD.a3,Ws d.lE.a0,Ws d.lE.a1,Ws d.lE.a2,Ws d.lE.a3,.bool af.a0,.bool af.a1]:List SC)
abbrev Fy (aC at_):=([tI 11 aC,tP 8 5 0,tP 7 4 0,tI 2 at_,tP 3 0 0,tP 4 1 0,tP 5 2 0]:TM)
abbrev IM (aH at_):=([tI 94 aH,tP 8 5 0,tP 7 4 0,tI 2 at_,tP 3 0 0,tP 4 1 0]:TM)
abbrev IN (aA at_):=([tI 21 aA,tP 8 5 0,tP 7 4 0,tI 2 at_,tP 4 1 0]:TM)
abbrev Pk (at_):=([tI 2 at_,tP 3 0 0,tP 4 1 0,tP 5 2 0,tP 6 3 0]:TM)
abbrev SK (at_):=([tP 8 5 0,tP 7 4 0,tI 2 at_,tP 3 0 0,tP 4 1 0,tP 5 2 0]:TM)
theorem Hx (n:Nat):∀ (F:Fr)(h:Ae)(w:World)(σ:Type)(XS:σ→Fr→Ae→Prop)(B:Nat→Prop)(hXS:V4 XS B)(cZ:σ→Ar→Bn→Option σ)(bR:Fn)(bS bT:Array Value)(hy:Uo XS B (.func bR bS bT) cZ)(aR aS aU bA:Nat)(d:Ar)(eF:Wx)(fU:rep h d eF)(c:Bn)(gN:Wx)(jO:rep h c gN)(at_:Int)(lB:Int)(cD:CY h aR lB)(cE:AL h aS [.func (.func 80) #[] #[.pointer (some ⟨aR,0,none⟩),.pointer (some ⟨aS,0,none⟩),.pointer (some ⟨aU,0,none⟩),.pointer (some ⟨bA,0,none⟩)]])(r_:Af)(cM:CY h aU r_)(dD:AL h bA [.func bR bS bT])(s:σ)(hs:XS s F h)(hm:Ah F h [] [] [] w)(r:σ)(H:control_Route_every_1 n cZ d c at_ lB r_ s=some r),
  Calls Tryz.prog 80 #[.agg eF.toArray,.agg gN.toArray,.int .i64 at_,.pointer (some ⟨aR,0,none⟩),.pointer (some ⟨aS,0,none⟩),.pointer (some ⟨aU,0,none⟩),.pointer (some ⟨bA,0,none⟩)] w (Vq XS B F h r):=by
 induction n using Nat.strongRecOn with
 | _ n ih =>
  intro F h w σ XS B hXS cZ bR bS bT hy aR aS aU bA d eF fU c gN jO at_ lB cD cE r_ cM dD s hs hm r H
  obtain _ | n:=n
  ·
   rw [control_Route_every_1] at H; cases H
  obtain⟨_,_,rfl,⟨_,_,rfl,rfl,⟨_,_,rfl,rfl,⟨_,_,rfl,rfl,rfl⟩⟩⟩,⟨_,_,rfl,⟨_,_,rfl,rfl,⟨_,_,rfl,rfl,⟨_,_,rfl,rfl,rfl⟩⟩⟩,⟨_,_,rfl,rfl,rfl⟩⟩⟩:=fU
  obtain⟨_,_,rfl,rfl,rfl⟩:=jO
  obtain⟨_,kY,kZ⟩:=id cD
  obtain rfl:=kY
  obtain⟨_,aW,iF⟩:=id cM
  obtain⟨_,_,rfl,⟨l,p,rfl,ab⟩,⟨_,_,rfl,⟨_,_,rfl,rfl,rfl⟩,⟨_,_,rfl,⟨i,k,rfl,x⟩,⟨_,_,rfl,⟨m,q,rfl,ac⟩,⟨_,_,rfl,rfl,⟨_,_,rfl,rfl,⟨_,_,rfl,rfl,rfl⟩⟩⟩⟩⟩⟩⟩:=aW
  refine HL (e:=[(aR,0),(aS,0),(aU,0),(bA,0)]) 118 [.agg (DA d),.agg (RM c),.c (Ws at_),.c (.ptr 0 0),.c (.ptr 1 0),.c (.ptr 2 0),.c (.ptr 3 0)] Tryz.func80 rfl rfl rfl rfl fun t hk=>?_
  replace hm:=hm.addPlc (o:=0) (cs:=[Ws lB]) (fun j c hj=>by rw [Xa]; exact kZ j _ (Ak hj)) rfl (by kernel_rfl) (by kernel_rfl)
  replace hm:=hm.addPlc (o:=0) (cs:=[.func (.func 80) #[] #[.pointer (some ⟨aR,0,none⟩),.pointer (some ⟨aS,0,none⟩),.pointer (some ⟨aU,0,none⟩),.pointer (some ⟨bA,0,none⟩)]]) (fun j c hj=>by rw [Xa]; exact cE j _ (Ak hj)) rfl (by kernel_rfl) (by kernel_rfl)
  replace hm:=hm.addPlc (o:=0) (cs:=(Wp r_ l p i k m q)) (fun j c hj=>by rw [Xa]; exact iF j _ (Ak hj)) rfl (by kernel_rfl) (by kernel_rfl)
  replace hm:=hm.addPlc (o:=0) (cs:=[.func bR bS bT]) (fun j c hj=>by rw [Xa]; exact dD j _ (Ak hj)) rfl (by kernel_rfl) (by kernel_rfl)
  replace hm:Ah F h [(aR,0),(aS,0),(aU,0),(bA,0)] [⟨[Ws lB],none⟩,⟨Ns aR aS aU bA,none⟩,⟨UB l r_ p i k m q,none⟩,⟨[.func bR bS bT],none⟩] [] w:=hm
  rw [control_Route_every_1] at H
  refine XT (Aa (wl fun K hK=>?_))
  refine wb (.agg (DA d)) hk hm fun a gj ig (d2:Kn 118 [(aR,0),(aS,0),(aU,0),(bA,0),(a,0)] ((tP 7 4 0)::(tA 0 (DA d))::(tA 1 (RM c))::(Pk at_)) gj) fc=>hK _ _ ?_
  refine wl fun K hK=>?_
  refine wb (.agg (RM c)) d2 fc fun f cu il (eb:Kn 118 (DW aR aS aU bA a f) ((tP 8 5 0)::(tP 7 4 0)::(tA 0 (DA d))::(tA 1 (RM c))::(Pk at_)) cu) ae=>hK _ _ ?_
  have ef:Kn 118 (DW aR aS aU bA a f) ((tP 8 5 0)::(tP 7 4 0)::(Pk at_)) cu:=eb.kp
  refine wf (wp_block (XT (Aa (Rk 0 4 ((tB 17 (decide (at_<lB)))::(tP 8 5 0)::(tP 7 4 0)::(Pk at_)) ef ae fun hq bp=>?_))))
  refine wf (wC (decide (at_<lB)) bp (fun bi=>?_) (fun bi=>?_))
  ·
   rw [bi,XW] at H
   refine XT (Aa (Rk 0 1 [tI 21 0,tP 8 5 0,tP 7 4 0,tI 2 at_,tP 4 1 0] bp ae fun hv en=>?_))
   refine wf ?_
   obtain⟨av,b5,H⟩:=Av H
   refine A0 (fun a' w'=>∃ (a4:Fr)(b1:Array Value)(a8:Ae),a' = ⟨b1,[]⟩∧Kn 118 (DW aR aS aU bA a f) [] b1∧Ah a4 a8 (DW aR aS aU bA a f) [⟨[Ws lB],none⟩,⟨Ns aR aS aU bA,none⟩,⟨UB l r_ p i k m q,none⟩,⟨[.func bR bS bT],none⟩,⟨[Ws av.1.a0,Ws av.1.a1,Ws av.1.a2,Ws av.1.a3,Ws d.lE.a0,Ws d.lE.a1,Ws d.lE.a2,Ws d.lE.a3,.bool d.lC.a0,.bool d.lC.a1],some 105⟩,⟨RM c,some 107⟩] [] w'∧Ae.le h a8∧Fr.Sim B F a4∧XS av.2 a4 a8) ?_ ?_
   ·
    refine wp_block ?_
    refine Au (fun cr a' w'=>∃ (aA:Int)(aD:AS)(aM:σ)(az:Fr)(b2:Array Value)(ar:Ae),a' = ⟨b2,[]⟩∧Kn 118 (DW aR aS aU bA a f) (IN aA at_) b2∧Ah az ar (DW aR aS aU bA a f) [⟨[Ws lB],none⟩,⟨Ns aR aS aU bA,none⟩,⟨UB l r_ p i k m q,none⟩,⟨[.func bR bS bT],none⟩,⟨[Ws aD.a0,Ws aD.a1,Ws aD.a2,Ws aD.a3,Ws d.lE.a0,Ws d.lE.a1,Ws d.lE.a2,Ws d.lE.a3,.bool d.lC.a0,.bool d.lC.a1],some 105⟩,⟨RM c,some 107⟩] [] w'∧Ae.le h ar∧Fr.Sim B F az∧XS aM az ar∧cr≤n∧AZ cr cZ d c at_ lB r_ aA aD aM=some av) n ?_ ?_
    ·
     exact XY 0 ⟨d.lD,s,F,_,_,rfl,en.kp,ae,Ae.le_refl _,Fr.Sim.refl B F,hs,Nat.le_refl _,b5⟩
    ·
     rintro bd _ iw ⟨aA,aD,aM,az,b2,ar,rfl,ev,bb,al,co,b7,g5,v⟩
     clear b5
     obtain _ | bd:=bd
     ·
      rw [AZ] at v; cases v
     rw [AZ] at v
     replace cD:=cD.mono al
     replace cE:=cE.mono al
     replace ab:=ab.mono al
     replace x:=x.mono al
     replace ac:=ac.mono al
     replace cM:=cM.mono al
     replace dD:=dD.mono al
     refine XT (Aa (Rk 0 1 ((tB 22 (decide (aA<3)))::(IN aA at_)) ev bb fun h0 br=>?_))
     refine wf (XT (wC (decide (aA<3)) br (fun bk=>?_) (fun bk=>?_)))
     ·
      rw [bk,XW] at v
      refine wp_skip (XT (wp_block (XT (Aa (Rk 0 2 ((tI 10 aA)::(IN aA at_)) br bb fun h1 ew=>?_)))))
      refine wf (XT (Aa (Rk 0 3 ((tP 26 4 0)::(tI 25 aA)::(tI 24 at_)::(tI 10 aA)::(IN aA at_)) ew bb fun h2 cc=>?_)))
      obtain⟨gF,jG,v⟩:=Av v
      obtain⟨fo,ft⟩:=OD jG
      refine PS 3 (.one (.c (.ptr 4 (0+Wv at_*1)))) rfl (rfl) rfl (La (E:=3) cc rfl (by kernel_rfl) (by kernel_rfl) (by rfl) (by rfl) fo ft) (cc.put (by decide) _) fun c0 (ex:Kn 118 (DW aR aS aU bA a f) ((tP 27 4 (0+Wv at_*1))::(tP 26 4 0)::(tI 25 aA)::(tI 24 at_)::(tI 10 aA)::(IN aA at_)) c0)=>?_
      obtain⟨aa,c8,v⟩:=Av v
      obtain⟨g8,hb,gi⟩:=AS.setI_some c8
      refine wl fun K hK=>?_
      refine L3 4 (0+(at_:Int).toNat*1) (.c (Ws aA)) (Tw aa d) ex bb rfl rfl (by rfl) (by rfl) (by rfl) (by kernel_rfl) (by refine decide_eq_true ?_; show(0+(at_:Int).toNat*1)+1≤10; omega) (QH (fun(y:Int)=>([Ws y]:List SC)) 1 (fun _=>rfl) [] [Ws d.lE.a0,Ws d.lE.a1,Ws d.lE.a2,Ws d.lE.a3,.bool d.lC.a0,.bool d.lC.a1] aD.toL aa.toL (at_:Int).toNat aA gi (show(at_:Int).toNat<4 by omega) rfl rfl rfl) fun ix ey cl=>hK _ _ ?_
      have ez:Kn 118 (DW aR aS aU bA a f) ((tI 10 aA)::(IN aA at_)) c0:=ey.kp
      refine wf (Aa (Rk 0 14 ((tI 41 (IntKind.i64.wrap (at_+1)))::(tA 39 (UV c aA))::(tA 29 (Tw aa d))::(28,.one (.c (.func (.func 80) #[] #[.pointer (some ⟨aR,0,none⟩),.pointer (some ⟨aS,0,none⟩),.pointer (some ⟨aU,0,none⟩),.pointer (some ⟨bA,0,none⟩)])))::(IN aA at_)) ez cl fun h3 e0=>?_))
      obtain⟨cK,iW,v⟩:=Av v
      obtain⟨gu,e8,dt,fx⟩:=cl.lendS hXS b7
      refine wl fun K hK=>?_
      refine HY (.func (.func 80) #[] #[.pointer (some ⟨aR,0,none⟩),.pointer (some ⟨aS,0,none⟩),.pointer (some ⟨aU,0,none⟩),.pointer (some ⟨bA,0,none⟩)]) [.agg (Tw aa d),.agg (UV c aA),.c (Ws (IntKind.i64.wrap (at_+1)))] _ e0 rfl rfl (by decide) (by rfl) (by rfl) rfl ⟨80,_,_,rfl,fun _ _=>by kernel_rfl,ih bd (by omega) _ _ _ _ _ _ hXS cZ _ _ _ hy _ _ _ _ (Ar.mk aa d.lE d.lC) _ ((Ab (Ab Ac (Ab Ac (Ab Ac Ac))) (Ab (Ab Ac (Ab Ac (Ab Ac Ac))) (Ab B3 B3))):rep ar (Ar.mk aa d.lE d.lC) _) (Bn.mk (IntKind.i64.wrap (c.lJ+(if 1<aA then 1 else aA))) (IntKind.i64.wrap (c.sum+aA))) _ ((Ab Ac Ac):rep ar (Bn.mk (IntKind.i64.wrap (c.lJ+(if 1<aA then 1 else aA))) (IntKind.i64.wrap (c.sum+aA))) _) (IntKind.i64.wrap (at_+1)) lB cD cE r_ cM dD aM dt e8 _ iW⟩ fun ic iy ds=>?_
      obtain⟨rfl,gy,gp,cg,ga,du,fj⟩:=ds
      obtain⟨c5,gb,dv,cm⟩:=fx _ _ _ _ cg ga du fj
      have gc:=Fr.Sim.trans co gb
      refine⟨.tup [],rfl,fun c1 (e1:Kn 118 (DW aR aS aU bA a f) ((42,.tup [])::(tI 41 (IntKind.i64.wrap (at_+1)))::(tA 39 (UV c aA))::(tA 29 (Tw aa d))::(28,.one (.c (.func (.func 80) #[] #[.pointer (some ⟨aR,0,none⟩),.pointer (some ⟨aS,0,none⟩),.pointer (some ⟨aU,0,none⟩),.pointer (some ⟨bA,0,none⟩)])))::(IN aA at_)) c1)=>hK _ _ ?_⟩
      have e2:Kn 118 (DW aR aS aU bA a f) (IN aA at_) c1:=e1.kp
      refine wf (Aa (Rk 0 2 [tI 21 (IntKind.i64.wrap (aA+1)),tP 8 5 0,tP 7 4 0,tI 2 at_,tP 4 1 0] e2 cm fun h4 e3=>?_))
      refine wf ?_
      exact XY bd ⟨Xc _,XY (IntKind.i64.wrap (aA+1)) ⟨aa,cK,c5,_,_,rfl,e3.kp,cm,XU al cg,gc,dv,(by omega),v⟩⟩
     ·
      rw [bk,XV] at v
      refine wp_exit ?_
      obtain rfl:=XZ v
      exact XY az ⟨_,_,rfl,br.kp,bb,al,co,b7⟩
   ·
    rintro _ iz ⟨a4,b1,a8,rfl,g2,fk,fb,f9,dr⟩
    obtain rfl:=XZ H
    exact GS rfl ⟨rfl,a8,a4,fb,f9,dr,(fk.cutRw 0).cutPl 0 (by kernel_rfl)⟩
  ·
   rw [bi,XV] at H
   refine XT (Aa (Rk 0 5 ((tB 44 (decide (at_<(IntKind.i64.wrap (2*lB)))))::(tP 8 5 0)::(tP 7 4 0)::(Pk at_)) bp ae fun h5 bs=>?_))
   refine wf (wC (decide (at_<(IntKind.i64.wrap (2*lB)))) bs (fun bl=>?_) (fun bl=>?_))
   ·
    rw [bl,XW] at H
    refine XT (Aa (Rk 0 1 ((tI 11 (-1))::(SK at_)) bs ae fun h6 e4=>?_))
    refine wf ?_
    obtain⟨au,b3,H⟩:=Av H
    refine A0 (fun a' w'=>∃ (aw:Fr)(bw:Array Value)(a5:Ae),a' = ⟨bw,[]⟩∧Kn 118 (DW aR aS aU bA a f) [] bw∧Ah aw a5 (DW aR aS aU bA a f) [⟨[Ws lB],none⟩,⟨Ns aR aS aU bA,none⟩,⟨UB l r_ p i k m q,none⟩,⟨[.func bR bS bT],none⟩,⟨[Ws d.lD.a0,Ws d.lD.a1,Ws d.lD.a2,Ws d.lD.a3,Ws au.1.a0,Ws au.1.a1,Ws au.1.a2,Ws au.1.a3,.bool d.lC.a0,.bool d.lC.a1],some 105⟩,⟨RM c,some 107⟩] [] w'∧Ae.le h a5∧Fr.Sim B F aw∧XS au.2 aw a5) ?_ ?_
    ·
     refine wp_block ?_
     refine Au (fun cp a' w'=>∃ (aC:Int)(aB:AS)(aJ:σ)(ap:Fr)(bx:Array Value)(a6:Ae),a' = ⟨bx,[]⟩∧Kn 118 (DW aR aS aU bA a f) (Fy aC at_) bx∧Ah ap a6 (DW aR aS aU bA a f) [⟨[Ws lB],none⟩,⟨Ns aR aS aU bA,none⟩,⟨UB l r_ p i k m q,none⟩,⟨[.func bR bS bT],none⟩,⟨V6 d aB,some 105⟩,⟨RM c,some 107⟩] [] w'∧Ae.le h a6∧Fr.Sim B F ap∧XS aJ ap a6∧cp≤n∧AJ cp cZ d c at_ lB r_ aC aB aJ=some au) n ?_ ?_
     ·
      exact XY (-1) ⟨d.lE,s,F,_,_,rfl,e4.kp,ae,Ae.le_refl _,Fr.Sim.refl B F,hs,Nat.le_refl _,b3⟩
     ·
      rintro ao _ ie ⟨aC,aB,aJ,ap,bx,a6,rfl,dz,bt,ah,bv,am,g3,g⟩
      clear b3
      obtain _ | ao:=ao
      ·
       rw [AJ] at g; cases g
      rw [AJ] at g
      replace ab:=ab.mono ah
      replace x:=x.mono ah
      replace ac:=ac.mono ah
      refine XT (XT (Aa (Rk 0 2 ((tA 50 (UB l r_ p i k m q))::(tI 49 aC)::(Fy aC at_)) dz bt fun hc d0=>?_)))
      obtain⟨fK,kW,g⟩:=Av g
      refine wl fun K hK=>?_
      refine wc [.agg (UB l r_ p i k m q)] d0 bt (DI ao bt.has r_ ((Ab (Ad ab) (Ab (Ab Ac Ac) (Ab (Ad x) (Ab (Ad ac) (Ab Ac (Ab Ac (Ab Ac Ac))))))):rep a6 r_ _) kW) fun h7 b8 ii c9 ad an=>?_
      replace cD:=cD.mono (XU ah ad)
      replace cE:=cE.mono (XU ah ad)
      replace ab:=ab.mono ad
      replace x:=x.mono ad
      replace ac:=ac.mono ad
      replace cM:=cM.mono (XU ah ad)
      replace dD:=dD.mono (XU ah ad)
      replace am:=hXS.up am ad
      obtain rfl:=c9
      refine⟨.one (.c (Ws fK)),rfl,fun gk (d1:Kn 118 (DW aR aS aU bA a f) ((tI 51 fK)::(tA 50 (UB l r_ p i k m q))::(tI 49 aC)::(Fy aC at_)) gk)=>hK _ _ ?_⟩
      refine Rk 3 1 ((tB 52 (decide (aC<fK)))::(Fy aC at_)) d1 an fun hd bm=>?_
      refine wf (wC (decide (aC<fK)) bm (fun bf=>?_) (fun bf=>?_))
      ·
       rw [bf,XW] at g
       refine wp_skip (XT (wp_block (XT (Am (by kernel_rfl) ?_))))
       replace an:=an.drew
       refine Ao [] (DW aR aS aU bA a f) [⟨[Ws lB],none⟩,⟨Ns aR aS aU bA,none⟩,⟨UB l r_ p i k m q,none⟩,⟨[.func bR bS bT],none⟩,⟨V6 d aB,some 105⟩,⟨RM c,some 107⟩] ?_
       refine Dr [0,1,2,3,4,5] (dn 5) ((tI 60 (IntKind.i64.wrap (at_-lB)))::(tS 57 i r_.lB.length k)::(tA 55 (UB l r_ p i k m q))::(Fy aC at_)) bm an fun he d3=>?_
       obtain⟨cF,ge,g⟩:=Av g
       obtain⟨fl,fp,gf⟩:=Ai ge
       obtain⟨ag,aj,gv,dx,gd,dy⟩:=x.get (by decide) gf
       obtain⟨_,_,rfl,rfl,⟨_,_,rfl,rfl,rfl⟩⟩:=gd
       have bu:=an.addPlc (b:=ag) (o:=aj+(IntKind.i64.wrap (at_-lB):Int).toNat*3) (cs:=(Nz cF)) (fun j c hj=>dy j _ (Ak hj)) rfl (by kernel_rfl) (by kernel_rfl)
       refine Az 6 (IntKind.i64.wrap (at_-lB)) (Nz cF) (fun _ _ _ _ _ h=>h) rfl rfl (rfl) rfl (by decide) (by kernel_rfl) (by kernel_rfl) d3 an.plOk (by rfl) (by rfl) (by rfl) dx (by rfl) fl fp (by kernel_rfl) fun gl (d4:Kn 118 (Pj aR aS aU bA a f ag aj at_ lB) ((tP 61 6 0)::(tI 60 (IntKind.i64.wrap (at_-lB)))::(tS 57 i r_.lB.length k)::(tA 55 (UB l r_ p i k m q))::(Fy aC at_)) gl)=>?_
       refine Dr [7,8] (dn 8) ((tI 63 aC)::(tA 62 (Nz cF))::(tA 55 (UB l r_ p i k m q))::(Fy aC at_)) d4 bu fun hf d5=>?_
       obtain⟨dV,jN,g⟩:=Av g
       refine Dl 9 fun K hK=>?_
       refine wc [.agg (UB l r_ p i k m q),.agg (Nz cF),.c (Ws aC)] d5 bu (FM ao bu.has r_ ((Ab (Ad ab) (Ab (Ab Ac Ac) (Ab (Ad x) (Ab (Ad ac) (Ab Ac (Ab Ac (Ab Ac Ac))))))):rep b8 r_ _) cF ((Ab Ac (Ab Ac Ac)):rep b8 cF _) aC jN) fun h8 b9 ij da ai a9=>?_
       replace cD:=cD.mono ai
       replace cE:=cE.mono ai
       replace ab:=ab.mono ai
       replace x:=x.mono ai
       replace ac:=ac.mono ai
       replace cM:=cM.mono ai
       replace dD:=dD.mono ai
       replace am:=hXS.up am ai
       obtain rfl:=da
       refine⟨.one (.c (.bool dV)),rfl,fun ct (d6:Kn 118 (Pj aR aS aU bA a f ag aj at_ lB) ((tB 64 dV)::(tI 63 aC)::(tA 62 (Nz cF))::(tA 55 (UB l r_ p i k m q))::(Fy aC at_)) ct)=>hK _ _ a9.plOk ?_⟩
       have bn:Kn 118 (Pj aR aS aU bA a f ag aj at_ lB) ((tB 64 dV)::(Fy aC at_)) ct:=d6.kp
       refine A2 (by kernel_rfl) (wC (dV) bn (fun bg=>?_) (fun bg=>?_))
       ·
        rw [bg,XW] at g
        refine XT (Aa (Rk 0 5 ((tP 69 4 4)::(tI 68 aC)::(tI 67 (IntKind.i64.wrap (at_-lB)))::(Fy aC at_)) bn a9 fun hg ca=>?_))
        obtain⟨fE,iX,g⟩:=Av g
        obtain⟨fm,fq⟩:=OD iX
        refine PS 5 (.one (.c (.ptr 4 (4+(IntKind.i64.wrap (at_-lB):Int).toNat*1)))) rfl (rfl) rfl (La (E:=3) ca rfl (by kernel_rfl) (by kernel_rfl) (by rfl) (by rfl) fm fq) (ca.put (by decide) _) fun cv (d7:Kn 118 (Pj aR aS aU bA a f ag aj at_ lB) ((tP 70 4 (4+(IntKind.i64.wrap (at_-lB):Int).toNat*1))::(tP 69 4 4)::(tI 68 aC)::(tI 67 (IntKind.i64.wrap (at_-lB)))::(Fy aC at_)) cv)=>?_
        obtain⟨z,c6,g⟩:=Av g
        obtain⟨g6,g9,gg⟩:=AS.setI_some c6
        refine wl fun K hK=>?_
        refine L3 4 (4+(IntKind.i64.wrap (at_-lB):Int).toNat*1) (.c (Ws aC)) (V6 d z) d7 a9 rfl rfl (by rfl) (by rfl) (by rfl) (by kernel_rfl) (by refine decide_eq_true ?_; show(4+(IntKind.i64.wrap (at_-lB):Int).toNat*1)+1≤10; omega) (QH (fun(y:Int)=>([Ws y]:List SC)) 1 (fun _=>rfl) [Ws d.lD.a0,Ws d.lD.a1,Ws d.lD.a2,Ws d.lD.a3] [.bool d.lC.a0,.bool d.lC.a1] aB.toL z.toL (IntKind.i64.wrap (at_-lB):Int).toNat aC gg (show(IntKind.i64.wrap (at_-lB):Int).toNat<4 by omega) rfl rfl rfl) fun ik d8 ch=>hK _ _ ?_
        have d9:Kn 118 (Pj aR aS aU bA a f ag aj at_ lB) (Fy aC at_) cv:=d8.kp
        refine wf (Aa (Rk 0 13 ((tI 83 (IntKind.i64.wrap (at_+1)))::(tA 81 (UW c aC))::(tA 72 (V6 d z))::(71,.one (.c (.func (.func 80) #[] #[.pointer (some ⟨aR,0,none⟩),.pointer (some ⟨aS,0,none⟩),.pointer (some ⟨aU,0,none⟩),.pointer (some ⟨bA,0,none⟩)])))::(Fy aC at_)) d9 ch fun hh ea=>?_))
        obtain⟨eC,ex84,g⟩:=Av g
        obtain⟨gq,e5,dd,fu⟩:=ch.lendS hXS am
        refine wl fun K hK=>?_
        refine HY (.func (.func 80) #[] #[.pointer (some ⟨aR,0,none⟩),.pointer (some ⟨aS,0,none⟩),.pointer (some ⟨aU,0,none⟩),.pointer (some ⟨bA,0,none⟩)]) [.agg (V6 d z),.agg (UW c aC),.c (Ws (IntKind.i64.wrap (at_+1)))] _ ea rfl rfl (by decide) (by rfl) (by rfl) rfl ⟨80,_,_,rfl,fun _ _=>by kernel_rfl,ih ao (by omega) _ _ _ _ _ _ hXS cZ _ _ _ hy _ _ _ _ (Ar.mk d.lD z d.lC) _ ((Ab (Ab Ac (Ab Ac (Ab Ac Ac))) (Ab (Ab Ac (Ab Ac (Ab Ac Ac))) (Ab B3 B3))):rep b9 (Ar.mk d.lD z d.lC) _) (Bn.mk (IntKind.i64.wrap (c.lJ+(if 1<(IntKind.i64.wrap (aC+1)) then 1 else(IntKind.i64.wrap (aC+1))))) c.sum) _ ((Ab Ac Ac):rep b9 (Bn.mk (IntKind.i64.wrap (c.lJ+(if 1<(IntKind.i64.wrap (aC+1)) then 1 else(IntKind.i64.wrap (aC+1))))) c.sum) _) (IntKind.i64.wrap (at_+1)) lB cD cE r_ cM dD aJ dd e5 _ ex84⟩ fun h9 im dc=>?_
        obtain⟨rfl,gw,gm,cd,fz,de,fd⟩:=dc
        obtain⟨c2,f0,df,ci⟩:=fu _ _ _ _ cd fz de fd
        have f1:=Fr.Sim.trans bv f0
        refine⟨.tup [],rfl,fun cw (ec:Kn 118 (Pj aR aS aU bA a f ag aj at_ lB) ((84,.tup [])::(tI 83 (IntKind.i64.wrap (at_+1)))::(tA 81 (UW c aC))::(tA 72 (V6 d z))::(71,.one (.c (.func (.func 80) #[] #[.pointer (some ⟨aR,0,none⟩),.pointer (some ⟨aS,0,none⟩),.pointer (some ⟨aU,0,none⟩),.pointer (some ⟨bA,0,none⟩)])))::(Fy aC at_)) cw)=>hK _ _ ?_⟩
        have ed:Kn 118 (Pj aR aS aU bA a f ag aj at_ lB) (Fy aC at_) cw:=ec.kp
        refine wf (Aa (Rk 0 3 ((tI 11 (IntKind.i64.wrap (aC+1)))::(SK at_)) ed ci fun hl ee=>?_))
        refine wf ?_
        exact XY ao ⟨Xc _,XY (IntKind.i64.wrap (aC+1)) ⟨z,eC,c2,_,_,rfl,(ee.keep [11,8,7,2,3,4,5] (by rfl)).cut 6 (by kernel_rfl),ci.cutPl 6 (by kernel_rfl),XU ah (XU ad (XU ai cd)),f1,df,(by omega),g⟩⟩
       ·
        rw [bg,XV] at g
        refine wp_skip (Aa (Rk 0 3 ((tI 11 (IntKind.i64.wrap (aC+1)))::(SK at_)) bn a9 fun hn eg=>?_))
        refine wf ?_
        exact XY ao ⟨Xc _,XY (IntKind.i64.wrap (aC+1)) ⟨aB,aJ,ap,_,_,rfl,(eg.keep [11,8,7,2,3,4,5] (by rfl)).cut 6 (by kernel_rfl),a9.cutPl 6 (by kernel_rfl),XU ah (XU ad ai),bv,am,(by omega),g⟩⟩
      ·
       rw [bf,XV] at g
       refine wp_exit ?_
       obtain rfl:=XZ g
       exact XY ap ⟨_,_,rfl,bm.kp,an,XU ah ad,bv,am⟩
    ·
     rintro _ io ⟨aw,bw,a5,rfl,gz,fe,e9,fy,db⟩
     obtain rfl:=XZ H
     exact GS rfl ⟨rfl,a5,aw,e9,fy,db,(fe.cutRw 0).cutPl 0 (by kernel_rfl)⟩
   ·
    rw [bl,XV] at H
    refine XT (Aa (Rk 0 9 [tB 85 (decide (at_<(IntKind.i64.wrap ((IntKind.i64.wrap (2*lB))+((r_.lC.length:Nat):Int))))),tP 8 5 0,tP 7 4 0,tI 2 at_,tP 3 0 0,tP 4 1 0,tP 6 3 0] bs ae fun ho bo=>?_))
    refine wf (wC (decide (at_<(IntKind.i64.wrap ((IntKind.i64.wrap (2*lB))+((r_.lC.length:Nat):Int))))) bo (fun bh=>?_) (fun bh=>?_))
    ·
     rw [bh,XW] at H
     refine XT (Aa (Rk 0 1 [tI 94 0,tP 8 5 0,tP 7 4 0,tI 2 at_,tP 3 0 0,tP 4 1 0] bo ae fun hp eh=>?_))
     refine wf ?_
     obtain⟨be,b4,H⟩:=Av H
     refine A0 (fun a' w'=>∃ (ay:Fr)(bz:Array Value)(a7:Ae),a' = ⟨bz,[]⟩∧Kn 118 (DW aR aS aU bA a f) [] bz∧Ah ay a7 (DW aR aS aU bA a f) [⟨[Ws lB],none⟩,⟨Ns aR aS aU bA,none⟩,⟨UB l r_ p i k m q,none⟩,⟨[.func bR bS bT],none⟩,⟨[Ws d.lD.a0,Ws d.lD.a1,Ws d.lD.a2,Ws d.lD.a3,Ws d.lE.a0,Ws d.lE.a1,Ws d.lE.a2,Ws d.lE.a3,.bool be.1.a0,.bool be.1.a1],some 105⟩,⟨RM c,some 107⟩] [] w'∧Ae.le h a7∧Fr.Sim B F ay∧XS be.2 ay a7) ?_ ?_
     ·
      refine wp_block ?_
      refine Au (fun cq a' w'=>∃ (aH:Int)(aL:Bd)(cL:σ)(ax:Fr)(b0:Array Value)(aq:Ae),a' = ⟨b0,[]⟩∧Kn 118 (DW aR aS aU bA a f) (IM aH at_) b0∧Ah ax aq (DW aR aS aU bA a f) [⟨[Ws lB],none⟩,⟨Ns aR aS aU bA,none⟩,⟨UB l r_ p i k m q,none⟩,⟨[.func bR bS bT],none⟩,⟨[Ws d.lD.a0,Ws d.lD.a1,Ws d.lD.a2,Ws d.lD.a3,Ws d.lE.a0,Ws d.lE.a1,Ws d.lE.a2,Ws d.lE.a3,.bool aL.a0,.bool aL.a1],some 105⟩,⟨RM c,some 107⟩] [] w'∧Ae.le h aq∧Fr.Sim B F ax∧XS cL ax aq∧cq≤n∧Ba cq cZ d c at_ lB r_ aH aL cL=some be) n ?_ ?_
      ·
       exact XY 0 ⟨d.lC,s,F,_,_,rfl,eh.kp,ae,Ae.le_refl _,Fr.Sim.refl B F,hs,Nat.le_refl _,b4⟩
      ·
       rintro bc _ ip ⟨aH,aL,cL,ax,b0,aq,rfl,ei,ba,ak,cn,b6,g4,u⟩
       clear b4
       obtain _ | bc:=bc
       ·
        rw [Ba] at u; cases u
       rw [Ba] at u
       replace cD:=cD.mono ak
       replace cE:=cE.mono ak
       replace ab:=ab.mono ak
       replace x:=x.mono ak
       replace ac:=ac.mono ak
       replace cM:=cM.mono ak
       replace dD:=dD.mono ak
       refine XT (Aa (Rk 0 1 ((tB 95 (decide (aH<2)))::(IM aH at_)) ei ba fun hr bq=>?_))
       refine wf (XT (wC (decide (aH<2)) bq (fun bj=>?_) (fun bj=>?_)))
       ·
        rw [bj,XW] at u
        refine wp_skip (XT (wp_block (XT (Aa (Rk 0 2 ((tI 12 aH)::(IM aH at_)) bq ba fun ht ej=>?_)))))
        refine wf (XT (Aa (Rk 0 7 ((tP 103 4 8)::(tB 102 (aH == 1))::(tI 100 (IntKind.i64.wrap (at_-(IntKind.i64.wrap (2*lB)))))::(tI 12 aH)::(IM aH at_)) ej ba fun hu cb=>?_)))
        obtain⟨x104,ex104,u⟩:=Av u
        obtain⟨fn,fs⟩:=OD ex104
        refine PS 7 (.one (.c (.ptr 4 (8+(IntKind.i64.wrap (at_-(IntKind.i64.wrap (2*lB))):Int).toNat*1)))) rfl (rfl) rfl (La (E:=4) cb rfl (by kernel_rfl) (by kernel_rfl) (by rfl) (by rfl) fn fs) (cb.put (by decide) _) fun cx (ek:Kn 118 (DW aR aS aU bA a f) ((tP 104 4 (8+(IntKind.i64.wrap (at_-(IntKind.i64.wrap (2*lB))):Int).toNat*1))::(tP 103 4 8)::(tB 102 (aH == 1))::(tI 100 (IntKind.i64.wrap (at_-(IntKind.i64.wrap (2*lB)))))::(tI 12 aH)::(IM aH at_)) cx)=>?_
        obtain⟨af,c7,u⟩:=Av u
        obtain⟨g7,ha,gh⟩:=Bd.setI_some c7
        refine wl fun K hK=>?_
        refine L3 4 (8+(IntKind.i64.wrap (at_-(IntKind.i64.wrap (2*lB))):Int).toNat*1) (.c (.bool (aH == 1))) (QV d af) ek ba rfl rfl (by rfl) (by rfl) (by rfl) (by kernel_rfl) (by refine decide_eq_true ?_; show(8+(IntKind.i64.wrap (at_-(IntKind.i64.wrap (2*lB))):Int).toNat*1)+1≤10; omega) (QH (fun(y:Bool)=>([.bool y]:List SC)) 1 (fun _=>rfl) [Ws d.lD.a0,Ws d.lD.a1,Ws d.lD.a2,Ws d.lD.a3,Ws d.lE.a0,Ws d.lE.a1,Ws d.lE.a2,Ws d.lE.a3] [] aL.toL af.toL (IntKind.i64.wrap (at_-(IntKind.i64.wrap (2*lB))):Int).toNat (aH == 1) gh (show(IntKind.i64.wrap (at_-(IntKind.i64.wrap (2*lB))):Int).toNat<2 by omega) rfl rfl rfl) fun iq el cj=>hK _ _ ?_
        have em:Kn 118 (DW aR aS aU bA a f) ((tI 12 aH)::(IM aH at_)) cx:=el.kp
        refine wf (Aa (Rk 0 11 ((tI 115 (IntKind.i64.wrap (at_+1)))::(tA 113 [Ws (IntKind.i64.wrap (c.lJ+aH)),Ws c.sum])::(tA 106 (QV d af))::(105,.one (.c (.func (.func 80) #[] #[.pointer (some ⟨aR,0,none⟩),.pointer (some ⟨aS,0,none⟩),.pointer (some ⟨aU,0,none⟩),.pointer (some ⟨bA,0,none⟩)])))::(IM aH at_)) em cj fun hw eo=>?_))
        obtain⟨gG,kA,u⟩:=Av u
        obtain⟨gr,e6,di,fv⟩:=cj.lendS hXS b6
        refine wl fun K hK=>?_
        refine HY (.func (.func 80) #[] #[.pointer (some ⟨aR,0,none⟩),.pointer (some ⟨aS,0,none⟩),.pointer (some ⟨aU,0,none⟩),.pointer (some ⟨bA,0,none⟩)]) [.agg (QV d af),.agg [Ws (IntKind.i64.wrap (c.lJ+aH)),Ws c.sum],.c (Ws (IntKind.i64.wrap (at_+1)))] _ eo rfl rfl (by decide) (by rfl) (by rfl) rfl ⟨80,_,_,rfl,fun _ _=>by kernel_rfl,ih bc (by omega) _ _ _ _ _ _ hXS cZ _ _ _ hy _ _ _ _ (Ar.mk d.lD d.lE af) _ ((Ab (Ab Ac (Ab Ac (Ab Ac Ac))) (Ab (Ab Ac (Ab Ac (Ab Ac Ac))) (Ab B3 B3))):rep aq (Ar.mk d.lD d.lE af) _) (Bn.mk (IntKind.i64.wrap (c.lJ+aH)) c.sum) _ ((Ab Ac Ac):rep aq (Bn.mk (IntKind.i64.wrap (c.lJ+aH)) c.sum) _) (IntKind.i64.wrap (at_+1)) lB cD cE r_ cM dD cL di e6 _ kA⟩ fun ia ir dh=>?_
        obtain⟨rfl,gx,gn,ce,f3,dj,ff⟩:=dh
        obtain⟨c3,f4,dk,ck⟩:=fv _ _ _ _ ce f3 dj ff
        have f5:=Fr.Sim.trans cn f4
        refine⟨.tup [],rfl,fun cy (ep:Kn 118 (DW aR aS aU bA a f) ((116,.tup [])::(tI 115 (IntKind.i64.wrap (at_+1)))::(tA 113 [Ws (IntKind.i64.wrap (c.lJ+aH)),Ws c.sum])::(tA 106 (QV d af))::(105,.one (.c (.func (.func 80) #[] #[.pointer (some ⟨aR,0,none⟩),.pointer (some ⟨aS,0,none⟩),.pointer (some ⟨aU,0,none⟩),.pointer (some ⟨bA,0,none⟩)])))::(IM aH at_)) cy)=>hK _ _ ?_⟩
        have er:Kn 118 (DW aR aS aU bA a f) (IM aH at_) cy:=ep.kp
        refine wf (Aa (Rk 0 2 [tI 94 (IntKind.i64.wrap (aH+1)),tP 8 5 0,tP 7 4 0,tI 2 at_,tP 3 0 0,tP 4 1 0] er ck fun hx es=>?_))
        refine wf ?_
        exact XY bc ⟨Xc _,XY (IntKind.i64.wrap (aH+1)) ⟨af,gG,c3,_,_,rfl,es.kp,ck,XU ak ce,f5,dk,(by omega),u⟩⟩
       ·
        rw [bj,XV] at u
        refine wp_exit ?_
        obtain rfl:=XZ u
        exact XY ax ⟨_,_,rfl,bq.kp,ba,ak,cn,b6⟩
     ·
      rintro _ iu ⟨ay,bz,a7,rfl,g0,fg,fa,f2,dg⟩
      obtain rfl:=XZ H
      exact GS rfl ⟨rfl,a7,ay,fa,f2,dg,(fg.cutRw 0).cutPl 0 (by kernel_rfl)⟩
    ·
     rw [bh,XV] at H
     refine Aa (Rk 0 3 [tA 15 (RM c),tA 14 (DA d),(13,.one (.c (.func bR bS bT)))] bo ae fun hz et=>?_)
     obtain⟨cH,eV,H⟩:=Av H
     obtain⟨gs,e7,dm,fw⟩:=ae.lendS hXS hs
     refine wl fun K hK=>?_
     refine HY (.func bR bS bT) [.agg (DA d),.agg (RM c)] _ et rfl rfl (by decide) (by rfl) (by rfl) rfl (hy _ _ _ _ d _ ((Ab (Ab Ac (Ab Ac (Ab Ac Ac))) (Ab (Ab Ac (Ab Ac (Ab Ac Ac))) (Ab B3 B3))):rep h d _) c _ ((Ab Ac Ac):rep h c _) _ dm e7 eV) fun ib iv dl=>?_
     obtain⟨rfl,dw,go,cf,f6,dp,fh⟩:=dl
     obtain⟨c4,f7,dq,fi⟩:=fw _ _ _ _ cf f6 dp fh
     have f8:=Fr.Sim.trans (Fr.Sim.refl B F) f7
     refine⟨.tup [],rfl,fun cz (eu:Kn 118 (DW aR aS aU bA a f) [(16,.tup []),tA 15 (RM c),tA 14 (DA d),(13,.one (.c (.func bR bS bT)))] cz)=>hK _ _ ?_⟩
     have g1:Kn 118 (DW aR aS aU bA a f) [] cz:=eu.kp
     refine wf ?_
     obtain rfl:=XZ H
     exact GS rfl ⟨rfl,dw,c4,cf,f8,dq,(fi.cutRw 0).cutPl 0 (by kernel_rfl)⟩
theorem HQ (n:Nat) {F:Fr} {h:Ae} {w:World} {σ:Type} {XS:σ→Fr→Ae→Prop} {B:Nat→Prop} (hXS:V4 XS B) (cZ:σ→Ar→Bn→Option σ) {bR:Fn} {bS bT:Array Value} (hy:Uo XS B (.func bR bS bT) cZ) {aR aS aU bA:Nat} (d:Ar) {eF:Wx} (fU:rep h d eF) (c:Bn) {gN:Wx} (jO:rep h c gN) (at_:Int) (lB:Int) (cD:CY h aR lB) (cE:AL h aS [.func (.func 80) #[] #[.pointer (some ⟨aR,0,none⟩),.pointer (some ⟨aS,0,none⟩),.pointer (some ⟨aU,0,none⟩),.pointer (some ⟨bA,0,none⟩)]]) (r_:Af) (cM:CY h aU r_) (dD:AL h bA [.func bR bS bT]) (s:σ) (hs:XS s F h) (hm:Ah F h [] [] [] w) {r:σ} (H:control_Route_every_1 n cZ d c at_ lB r_ s=some r) :
  Calls Tryz.prog 80 #[.agg eF.toArray,.agg gN.toArray,.int .i64 at_,.pointer (some ⟨aR,0,none⟩),.pointer (some ⟨aS,0,none⟩),.pointer (some ⟨aU,0,none⟩),.pointer (some ⟨bA,0,none⟩)] w (Vq XS B F h r):=Hx n F h w σ XS B hXS cZ bR bS bT hy aR aS aU bA d eF fU c gN jO at_ lB cD cE r_ cM dD s hs hm r H
abbrev Qm (r_:Af):=([Ws ((r_.lB.length:Nat):Int)]:List SC)
abbrev UX:List SC:=[Ws 0,Ws 0,Ws 0,Ws 0,Ws 0,Ws 0,Ws 0,Ws 0,.bool false,.bool false]
theorem FO (n:Nat) {F:Fr} {h:Ae} {w:World} {σ:Type} {XS:σ→Fr→Ae→Prop} {B:Nat→Prop} (hXS:V4 XS B) (cZ:σ→Ar→Bn→Option σ) {bR:Fn} {bS bT:Array Value} (hy:Uo XS B (.func bR bS bT) cZ) (r_:Af) {aP:Wx} (aW:rep h r_ aP) (s:σ) (hs:XS s F h) (hm:Ah F h [] [] [] w) {r:σ} (H:BZ n cZ r_ s=some r) :
  Calls Tryz.prog 47 #[.agg aP.toArray,.func bR bS bT] w (Vq XS B F h r):=by
 obtain⟨_,_,rfl,⟨g,l,rfl,ah⟩,⟨_,_,rfl,⟨_,_,rfl,rfl,rfl⟩,⟨_,_,rfl,⟨j,m,rfl,ai⟩,⟨_,_,rfl,⟨k,o,rfl,aj⟩,⟨_,_,rfl,rfl,⟨_,_,rfl,rfl,⟨_,_,rfl,rfl,rfl⟩⟩⟩⟩⟩⟩⟩:=aW
 refine HL (e:=[]) 14 [.agg (UB g r_ l j m k o),.c (.func bR bS bT)] Tryz.func47 rfl rfl rfl rfl fun t hk=>?_
 unfold BZ at H
 refine XT (Aa (wl fun K hK=>?_))
 refine wb (.agg (UB g r_ l j m k o)) hk hm fun a bu b6 (a6:Kn 14 [(a,0)] [tP 2 0 0,tA 0 (UB g r_ l j m k o),(1,.one (.c (.func bR bS bT)))] bu) bk=>hK _ _ ?_
 refine wl fun K hK=>?_
 refine wb (.c (.func bR bS bT)) a6 bk fun b ar b7 (a7:Kn 14 [(a,0),(b,0)] [tP 3 1 0,tP 2 0 0,tA 0 (UB g r_ l j m k o),(1,.one (.c (.func bR bS bT)))] ar) ap=>hK _ _ ?_
 have a8:Kn 14 [(a,0),(b,0)] [tP 3 1 0,tP 2 0 0] ar:=a7.kp
 refine wf (XT (Aa (Rk 0 3 [tI 8 ((r_.lB.length:Nat):Int),tP 3 1 0,tP 2 0 0] a8 ap fun b3 a9=>?_)))
 refine wl fun K hK=>?_
 refine wa [Ws 0] a9 ap fun d au b8 (ba:Kn 14 [(a,0),(b,0),(d,0)] [tP 4 2 0,tI 8 ((r_.lB.length:Nat):Int),tP 3 1 0,tP 2 0 0] au) bl=>hK _ _ ?_
 refine wl fun K hK=>?_
 refine EZ 2 0 (.c (Ws ((r_.lB.length:Nat):Int))) (Qm r_) ba bl fun b9 bb bm=>hK _ _ ?_
 have bc:Kn 14 [(a,0),(b,0),(d,0)] [tP 4 2 0,tP 3 1 0,tP 2 0 0] au:=bb.kp
 refine wf (XT (Aa (wl fun K hK=>?_)))
 refine wa [.nilfunc] bc bm fun f bv ak (bd:Kn 14 (FJ a b d f) [tP 5 3 0,tP 4 2 0,tP 3 1 0,tP 2 0 0] bv) bn=>hK _ _ ?_
 refine wf (XT (Aa ?_))
 obtain⟨v,q,am,ad⟩:=bn.settlePlc (i:=2) rfl
 replace hs:=hXS.up hs q
 replace ad:Ah F v (FJ a b d f) [⟨UB g r_ l j m k o,some 48⟩,⟨[.func bR bS bT],some 110⟩,⟨Qm r_,none⟩,⟨[.nilfunc],some 149⟩] [] ak:=ad
 have aa:CY v d (((r_.lB.length:Nat):Int):Int):=CY.of (e:=(FJ a b d f)) (cs:=(Qm r_)) (Ac:rep v (((r_.lB.length:Nat):Int):Int) _) rfl am
 have b0:AL v d [.int .i64 ((r_.lB.length:Nat):Int)]:=AL.of (e:=[(a,0),(b,0),(d,0),(f,0)]) (cs:=[.int .i64 ((r_.lB.length:Nat):Int)]) rfl am
 obtain⟨x,p,an,ae⟩:=ad.settlePlc (i:=0) rfl
 replace ah:=ah.mono (XU q p)
 replace ai:=ai.mono (XU q p)
 replace aj:=aj.mono (XU q p)
 replace hs:=hXS.up hs p
 replace ae:Ah F x (FJ a b d f) [⟨UB g r_ l j m k o,none⟩,⟨[.func bR bS bT],some 110⟩,⟨Qm r_,none⟩,⟨[.nilfunc],some 149⟩] [] ak:=ae
 have ab:CY x a (r_:Af):=CY.of (e:=(FJ a b d f)) (cs:=(UB g r_ l j m k o)) ((Ab (Ad ah) (Ab (Ab Ac Ac) (Ab (Ad ai) (Ab (Ad aj) (Ab Ac (Ab Ac (Ab Ac Ac))))))):rep x (r_:Af) _) rfl an
 have b1:AL x a [.slice g r_.lA.length l,.int .i64 r_.turn.lo,.int .i64 r_.turn.hi,.slice j r_.lB.length m,.slice k r_.lC.length o,.int .i64 r_.lI,.int .i64 r_.gap,.int .i64 r_.fr,.int .i64 r_.to_]:=AL.of (e:=[(a,0),(b,0),(d,0),(f,0)]) (cs:=[.slice g r_.lA.length l,.int .i64 r_.turn.lo,.int .i64 r_.turn.hi,.slice j r_.lB.length m,.slice k r_.lC.length o,.int .i64 r_.lI,.int .i64 r_.gap,.int .i64 r_.fr,.int .i64 r_.to_]) rfl an
 obtain⟨al,z,a4,af⟩:=ae.settlePlc (i:=1) rfl
 replace hs:=hXS.up hs z
 replace af:Ah F al (FJ a b d f) [⟨UB g r_ l j m k o,none⟩,⟨[.func bR bS bT],none⟩,⟨Qm r_,none⟩,⟨[.nilfunc],some 149⟩] [] ak:=af
 have ac:AL al b [.func bR bS bT]:=AL.of (e:=[(a,0),(b,0),(d,0),(f,0)]) (cs:=[.func bR bS bT]) rfl a4
 refine Hn 0 #[] #[.pointer (some ⟨d,0,none⟩),.pointer (some ⟨f,0,none⟩),.pointer (some ⟨a,0,none⟩),.pointer (some ⟨b,0,none⟩)] bd rfl rfl (rfl) rfl (by decide) (by rfl) (by rfl) (by rfl) (by rfl) fun av (be:Kn 14 (FJ a b d f) [(9,.one (.c (.func (.func 80) #[] #[.pointer (some ⟨d,0,none⟩),.pointer (some ⟨f,0,none⟩),.pointer (some ⟨a,0,none⟩),.pointer (some ⟨b,0,none⟩)]))),tP 5 3 0,tP 4 2 0,tP 3 1 0,tP 2 0 0] av)=>?_
 refine wl fun K hK=>?_
 refine EZ 3 0 (.c (.func (.func 80) #[] #[.pointer (some ⟨d,0,none⟩),.pointer (some ⟨f,0,none⟩),.pointer (some ⟨a,0,none⟩),.pointer (some ⟨b,0,none⟩)])) [.func (.func 80) #[] #[.pointer (some ⟨d,0,none⟩),.pointer (some ⟨f,0,none⟩),.pointer (some ⟨a,0,none⟩),.pointer (some ⟨b,0,none⟩)]] be af fun bw bf aq=>hK _ _ ?_
 have bg:Kn 14 (FJ a b d f) [tP 5 3 0] av:=bf.kp
 refine wf (Aa (Rk 0 3 [tA 12 [Ws 0,Ws 0],tA 11 UX,(10,.one (.c (.func (.func 80) #[] #[.pointer (some ⟨d,0,none⟩),.pointer (some ⟨f,0,none⟩),.pointer (some ⟨a,0,none⟩),.pointer (some ⟨b,0,none⟩)])))] bg aq fun b4 bh=>?_))
 obtain⟨y,u,a5,ag⟩:=aq.settlePlc (i:=3) rfl
 replace aa:=aa.mono (XU (XU p z) u)
 replace ab:=ab.mono (XU z u)
 replace ac:=ac.mono u
 replace hs:=hXS.up hs u
 replace ag:Ah F y (FJ a b d f) [⟨UB g r_ l j m k o,none⟩,⟨[.func bR bS bT],none⟩,⟨Qm r_,none⟩,⟨[.func (.func 80) #[] #[.pointer (some ⟨d,0,none⟩),.pointer (some ⟨f,0,none⟩),.pointer (some ⟨a,0,none⟩),.pointer (some ⟨b,0,none⟩)]],none⟩] [] bw:=ag
 have a3:AL y f [.func (.func 80) #[] #[.pointer (some ⟨d,0,none⟩),.pointer (some ⟨f,0,none⟩),.pointer (some ⟨a,0,none⟩),.pointer (some ⟨b,0,none⟩)]]:=AL.of (e:=[(a,0),(b,0),(d,0),(f,0)]) (cs:=[.func (.func 80) #[] #[.pointer (some ⟨d,0,none⟩),.pointer (some ⟨f,0,none⟩),.pointer (some ⟨a,0,none⟩),.pointer (some ⟨b,0,none⟩)]]) rfl a5
 obtain⟨iJ,kO,H⟩:=Av H
 obtain⟨bz,bj,az,bq⟩:=ag.lendS hXS hs
 refine wl fun K hK=>?_
 refine HY (.func (.func 80) #[] #[.pointer (some ⟨d,0,none⟩),.pointer (some ⟨f,0,none⟩),.pointer (some ⟨a,0,none⟩),.pointer (some ⟨b,0,none⟩)]) [.agg UX,.agg [Ws 0,Ws 0],.c (Ws 0)] _ bh rfl rfl (by decide) (by rfl) (by rfl) rfl ⟨80,_,_,rfl,fun _ _=>by kernel_rfl,HQ n hXS cZ hy (Ar.mk (AS.mk 0 0 0 0) (AS.mk 0 0 0 0) (Bd.mk false false)) ((Ab (Ab Ac (Ab Ac (Ab Ac Ac))) (Ab (Ab Ac (Ab Ac (Ab Ac Ac))) (Ab B3 B3))):rep y (Ar.mk (AS.mk 0 0 0 0) (AS.mk 0 0 0 0) (Bd.mk false false)) _) (Bn.mk 0 0) ((Ab Ac Ac):rep y (Bn.mk 0 0) _) 0 ((r_.lB.length:Nat):Int) aa a3 r_ ab ac s az bj kO⟩ fun b5 ca ay=>?_
 obtain⟨rfl,a2,bx,ao,br,a0,bo⟩:=ay
 obtain⟨ax,bs,a1,bp⟩:=bq _ _ _ _ ao br a0 bo
 have bt:=Fr.Sim.trans (Fr.Sim.refl B F) bs
 refine⟨.tup [],rfl,fun aw (bi:Kn 14 (FJ a b d f) [(13,.tup []),tA 12 [Ws 0,Ws 0],tA 11 UX,(10,.one (.c (.func (.func 80) #[] #[.pointer (some ⟨d,0,none⟩),.pointer (some ⟨f,0,none⟩),.pointer (some ⟨a,0,none⟩),.pointer (some ⟨b,0,none⟩)])))] aw)=>hK _ _ ?_⟩
 have b2:Kn 14 (FJ a b d f) [] aw:=bi.kp
 refine wf ?_
 obtain rfl:=XZ H
 exact GS rfl ⟨rfl,a2,ax,XU q (XU p (XU z (XU u ao))),bt,a1,(bp.cutRw 0).cutPl 0 (by kernel_rfl)⟩
end Go.Proofs.YtokchpjijlebiaaGreat
