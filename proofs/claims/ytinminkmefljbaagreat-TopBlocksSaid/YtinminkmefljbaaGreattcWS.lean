/- Each call computes its plain function. -/
import Derived.Test.YtinminkmefljbaaGreatProg
import Derived.Test.YtinminkmefljbaaGreattcWD
import Derived.Test.YtinminkmefljbaaGreattcWG
import Derived.Test.YtinminkmefljbaaGreattcWH
import Derived.Test.YtinminkmefljbaaGreattcWR
set_option linter.all false
namespace Go.Proofs.YtinminkmefljbaaGreat
open Go Go.RowKit
set_option maxRecDepth 100000
set_option maxHeartbeats 4000000
open Rep (rep)
open KRep (kv)
open VRep (rv)
abbrev Xx:List SC:=[XR 0,XR 0,XR 5,XR 2,XR 3,XR 0]
abbrev XL (k)(l:Nat)(m)(q:Nat)(s)(u:Nat):=([(k,l+Yc 0*1),(m,q+Yc 0*1),(s,u+Yc 0*1)]:AJ)
abbrev P3 (cL:(List Int)×Int×Int)(a d e)(cI:(List (List Int))×Int)(f):=([tI 5 cL.2.2,tI 4 cL.2.1,tS 3 a cL.1.length d,tS 1 e cI.1.length f]:TM)
abbrev PN (cL:(List Int)×Int×Int)(a d):=([tI 4 cL.2.1,tS 3 a cL.1.length d]:TM)
theorem GM (n:Nat) {h:Ac} {w:World} (hh:CK h w)  {r:Bool} (H:FU n =some r) :
  Calls Tryz.prog 6 #[] w (CP (fun h v=>v=.bool r) h w):=by
 refine enter 65 [] Tryz.func6 rfl rfl rfl rfl fun t hk=>?_
 have hm:=Ai.begin h w hh
 unfold FU at H
 refine XT (Aa (Rk 0 1 [] hk hm fun e0 c5=>?_))
 refine wf (XT (Aa (wl fun K hK=>?_)))
 refine wS 3 1 [XR 0] c5 hm fun g em es (df:Kn _ [] [tS 7 g 1 1] _) bu=>?_
 have a1:Ae h ([0]:List Int) ([.int .i64 0]:Ye):=⟨_,_,rfl,(Ad:rep h (0:Int) _),rfl⟩
 refine hK _ _ ?_
 obtain⟨ac,dn,d3,a4⟩:=bu.settle (i:=0) rfl
 replace a1:=a1.mono dn
 replace a4:Ai _ _ [] [] [⟨g,1,1,3,1,([.int .i64 0]:Ye),_⟩] _:=a4
 have dy:At ac g 1 ([0]:List Int):=⟨_,a1,d3,bu.rowCap (i:=0) rfl⟩
 refine wl fun K hK=>?_
 refine wS 26 1 [Yb g 1 1] df a4 fun x ei fl (cq:Kn _ [] [tS 8 x 1 1,tS 7 g 1 1] _) br=>?_
 have ax:Ae ac ([([0]:List Int)]:List (List Int)) ([.slice g 1 1]:Ye):=⟨_,_,rfl,((Af dy):rep ac (([0]:List Int):List Int) _),rfl⟩
 refine hK _ _ ?_
 refine Rk 2 1 [tA 9 Xx,tS 8 x 1 1] cq br fun fb c9=>?_
 refine wl fun K hK=>?_
 refine wS 60 6 Xx c9 br fun y el b4 (da:Kn _ [] [tS 10 y 1 1,tA 9 Xx,tS 8 x 1 1] _) a5=>?_
 have ay:Ae ac ([AH.mk 0 0 5 2 3 0]:List AH) ([.int .i64 0,.int .i64 0,.int .i64 5,.int .i64 2,.int .i64 3,.int .i64 0]:Ye):=⟨_,_,rfl,((Ab Ad (Ab Ad (Ab Ad (Ab Ad (Ab Ad Ad))))):rep ac ((AH.mk 0 0 5 2 3 0):AH) _),rfl⟩
 refine hK _ _ ?_
 refine Rk 4 1 [tA 11 [XR 1,XR 0,Yb x 1 1,Yb y 1 1]] da a5 fun fe db=>?_
 obtain⟨ba,bn,d4,am⟩:=a5.settle (i:=1) rfl
 replace ax:=ax.mono bn
 replace am:Ai _ _ [] [] [⟨g,1,1,3,1,([.int .i64 0]:Ye),_⟩,⟨x,1,1,26,1,([.slice g 1 1]:Ye),_⟩,⟨y,1,1,60,6,([.int .i64 0,.int .i64 0,.int .i64 5,.int .i64 2,.int .i64 3,.int .i64 0]:Ye),0⟩] _:=am
 have a7:At ba x 1 ([([0]:List Int)]:List (List Int)):=⟨_,ax,d4,a5.rowCap (i:=1) rfl⟩
 obtain⟨av,bo,d5,an⟩:=am.settle (i:=2) rfl
 replace a7:=a7.mono bo
 replace ay:=ay.mono (XU bn bo)
 replace an:Ai _ _ [] [] [⟨g,1,1,3,1,([.int .i64 0]:Ye),_⟩,⟨x,1,1,26,1,([.slice g 1 1]:Ye),_⟩,⟨y,1,1,60,6,([.int .i64 0,.int .i64 0,.int .i64 5,.int .i64 2,.int .i64 3,.int .i64 0]:Ye),_⟩] _:=an
 have d0:At av y 1 ([AH.mk 0 0 5 2 3 0]:List AH):=⟨_,ay,d5,am.rowCap (i:=2) rfl⟩
 obtain⟨cI,iZ,H⟩:=Ao H
 refine wl fun K hK=>?_
 refine wc [.agg [XR 1,XR 0,Yb x 1 1,Yb y 1 1]] db an (P2 n an.has (An.mk 1 0 ([([0]:List Int)]:List (List Int)) ([AH.mk 0 0 5 2 3 0]:List AH)) ((Ab Ad (Ab Ad (Ab (Af a7) (Af d0)))):rep av (An.mk 1 0 ([([0]:List Int)]:List (List Int)) ([AH.mk 0 0 5 2 3 0]:List AH)) _) iZ) fun fj al fm b8 ey bs=>?_
 obtain⟨_,_,rfl,⟨e,f,rfl,aq⟩,rfl⟩:=b8
 refine⟨.tup [.c (Yb e cI.1.length f),.c (XR cI.2)],rfl,fun en (dc:Kn _ [] [(12,.tup [.c (Yb e cI.1.length f),.c (XR cI.2)]),tA 11 [XR 1,XR 0,Yb x 1 1,Yb y 1 1]] _)=>hK _ _ ?_⟩
 refine Rk 6 5 [tI 2 cI.2,tS 1 e cI.1.length f] dc bs fun ff dd=>?_
 refine wf (XT (Aa (wl fun K hK=>?_)))
 refine wS 3 1 [XR 1] dd bs fun z eo fn (de:Kn _ [] [tS 16 z 1 1,tI 2 cI.2,tS 1 e cI.1.length f] _) bt=>?_
 have az:Ae al ([1]:List Int) ([.int .i64 1]:Ye):=⟨_,_,rfl,(Ad:rep al (1:Int) _),rfl⟩
 refine hK _ _ ?_
 refine Rk 1 1 [tA 17 [XR 7,XR 8,XR 5],tS 16 z 1 1,tI 2 cI.2,tS 1 e cI.1.length f] de bt fun fg dg=>?_
 refine wl fun K hK=>?_
 refine wS 62 3 [XR 7,XR 8,XR 5] dg bt fun ab ep b5 (dh:Kn _ [] [tS 18 ab 1 1,tA 17 [XR 7,XR 8,XR 5],tS 16 z 1 1,tI 2 cI.2,tS 1 e cI.1.length f] _) a6=>?_
 have a0:Ae al ([Cn.mk 7 8 5]:List Cn) ([.int .i64 7,.int .i64 8,.int .i64 5]:Ye):=⟨_,_,rfl,((Ab Ad (Ab Ad Ad)):rep al ((Cn.mk 7 8 5):Cn) _),rfl⟩
 refine hK _ _ ?_
 refine Rk 3 1 [tA 19 [Yb z 1 1,Yb ab 1 1,XR 0],tI 2 cI.2,tS 1 e cI.1.length f] dh a6 fun fh di=>?_
 obtain⟨bb,a2,d6,ao⟩:=a6.settle (i:=3) rfl
 replace az:=az.mono a2
 replace ao:Ai _ _ [] [] [⟨g,1,1,3,1,([.int .i64 0]:Ye),_⟩,⟨x,1,1,26,1,([.slice g 1 1]:Ye),_⟩,⟨y,1,1,60,6,([.int .i64 0,.int .i64 0,.int .i64 5,.int .i64 2,.int .i64 3,.int .i64 0]:Ye),_⟩,⟨z,1,1,3,1,([.int .i64 1]:Ye),_⟩,⟨ab,1,1,62,3,([.int .i64 7,.int .i64 8,.int .i64 5]:Ye),0⟩] _:=ao
 have a8:At bb z 1 ([1]:List Int):=⟨_,az,d6,a6.rowCap (i:=3) rfl⟩
 obtain⟨aw,a3,d7,ap⟩:=ao.settle (i:=4) rfl
 replace a8:=a8.mono a3
 replace a0:=a0.mono (XU a2 a3)
 replace ap:Ai _ _ [] [] [⟨g,1,1,3,1,([.int .i64 0]:Ye),_⟩,⟨x,1,1,26,1,([.slice g 1 1]:Ye),_⟩,⟨y,1,1,60,6,([.int .i64 0,.int .i64 0,.int .i64 5,.int .i64 2,.int .i64 3,.int .i64 0]:Ye),_⟩,⟨z,1,1,3,1,([.int .i64 1]:Ye),_⟩,⟨ab,1,1,62,3,([.int .i64 7,.int .i64 8,.int .i64 5]:Ye),_⟩] _:=ap
 have d1:At aw ab 1 ([Cn.mk 7 8 5]:List Cn):=⟨_,a0,d7,ao.rowCap (i:=4) rfl⟩
 obtain⟨cL,jY,H⟩:=Ao H
 refine wl fun K hK=>?_
 refine wc [.agg [Yb z 1 1,Yb ab 1 1,XR 0]] di ap (Mr n ap.has (Am.mk ([1]:List Int) ([Cn.mk 7 8 5]:List Cn) 0) ((Ab (Af a8) (Ab (Af d1) Ad)):rep aw (Am.mk ([1]:List Int) ([Cn.mk 7 8 5]:List Cn) 0) _) jY) fun fk ex fo b9 dp aa=>?_
 replace aq:=aq.mono (XU (XU a2 a3) dp)
 obtain⟨_,_,_,rfl,⟨a,d,rfl,d2⟩,rfl,rfl⟩:=b9
 refine⟨.tup [.c (Yb a cL.1.length d),.c (XR cL.2.1),.c (XR cL.2.2)],rfl,fun er (dj:Kn _ [] [(20,.tup [.c (Yb a cL.1.length d),.c (XR cL.2.1),.c (XR cL.2.2)]),tA 19 [Yb z 1 1,Yb ab 1 1,XR 0],tI 2 cI.2,tS 1 e cI.1.length f] _)=>hK _ _ ?_⟩
 refine Rk 5 7 [tI 5 cL.2.2,tI 4 cL.2.1,tS 3 a cL.1.length d,tI 2 cI.2,tS 1 e cI.1.length f] dj aa fun fi dk=>?_
 refine wf (XT (Aa (Rk 0 3 ((tB 26 (cI.2 == 0))::(P3 cL a d e cI f)) dk aa fun b2 bl=>?_)))
 rcases Y2 ((cI.2 == 0)) with ai | ai
 ·
  rw [ai,XW] at H
  have dl:Kn _ _ ((tB 26 true)::(P3 cL a d e cI f)) _:=(bl.setB 26 true (by rfl) ai).kp
  refine Rk 3 5 ((tB 31 (((cI.1.length:Nat):Int) == 1))::(P3 cL a d e cI f)) dl aa fun b3 bm=>?_
  rcases Y2 ((((cI.1.length:Nat):Int) == 1)) with aj | aj
  ·
   rw [aj,XW] at H
   have dm:Kn _ _ ((tB 31 true)::(P3 cL a d e cI f)) _:=(bm.setB 31 true (by rfl) aj).kp
   refine Rk 8 1 ((tS 32 e cI.1.length f)::(tB 31 true)::(P3 cL a d e cI f)) dm aa fun e1 bc=>?_
   obtain⟨fU,jD,H⟩:=Ao H
   obtain⟨dq,du,ec⟩:=Aj jD
   obtain⟨k,l,et,ca,d8,ce⟩:=aq.get (by decide) ec
   obtain⟨b6,b7,rfl,ez⟩:=d8
   have ak:=aa.addPlc (b:=k) (o:=l+Yc 0*1) (cs:=[Yb b6 fU.length b7]) (fun j c hj=>ce j _ (Ak hj)) rfl (by kernel_rfl) (by kernel_rfl)
   refine A9 9 (0) rfl rfl (Al bc (by kernel_rfl)) rfl (by decide) bc (by rfl) (by rfl) (by rfl) ca (by rfl) dq du (by kernel_rfl) fun eg (ci:Kn _ [(k,l+Yc 0*1)] ((tP 33 0 0)::(tS 32 e cI.1.length f)::(tB 31 true)::(P3 cL a d e cI f)) _)=>?_
   refine Rk 10 5 ((tB 38 (((fU.length:Nat):Int) == 1))::(P3 cL a d e cI f)) ci ak fun bw bd=>?_
   rcases Y2 ((((fU.length:Nat):Int) == 1)) with ad | ad
   ·
    rw [ad,XW] at H
    have cj:Kn _ _ ((tB 38 true)::(P3 cL a d e cI f)) _:=(bd.setB 38 true (by rfl) ad).kp
    refine Rk 15 1 ((tS 39 e cI.1.length f)::(tB 38 true)::(tI 5 cL.2.2)::(PN cL a d)) cj ak fun e2 be=>?_
    obtain⟨eF,ex40,H⟩:=Ao H
    obtain⟨dr,dv,ed⟩:=Aj ex40
    obtain⟨m,q,eu,cb,d9,cf⟩:=aq.get (by decide) ed
    obtain⟨ar,au,rfl,dz⟩:=d9
    have bp:=ak.addPlc (b:=m) (o:=q+Yc 0*1) (cs:=[Yb ar eF.length au]) (fun j c hj=>cf j _ (Ak hj)) rfl (by kernel_rfl) (by kernel_rfl)
    refine A9 16 (0) rfl rfl (Al be (by kernel_rfl)) rfl (by decide) be (by rfl) (by rfl) (by rfl) cb (by rfl) dr dv (by kernel_rfl) fun eh (ck:Kn _ [(k,l+Yc 0*1),(m,q+Yc 0*1)] ((tP 40 1 0)::(tS 39 e cI.1.length f)::(tB 38 true)::(tI 5 cL.2.2)::(PN cL a d)) _)=>?_
    refine Rk 17 1 ((tS 41 ar eF.length au)::(tB 38 true)::(tI 5 cL.2.2)::(PN cL a d)) ck bp fun e3 bf=>?_
    obtain⟨dI,iC,H⟩:=Ao H
    obtain⟨ds,dw,ee⟩:=Aj iC
    obtain⟨s,u,ev,cc,ea,cg⟩:=dz.get (by decide) ee
    obtain rfl:=ea
    have p:=bp.addPlc (b:=s) (o:=u+Yc 0*1) (cs:=[XR dI]) (fun j c hj=>cg j _ (Ak hj)) rfl (by kernel_rfl) (by kernel_rfl)
    refine A9 18 (0) rfl rfl (Al bf (by kernel_rfl)) rfl (by decide) bf (by rfl) (by rfl) (by rfl) cc (by rfl) ds dw (by kernel_rfl) fun ej (cl:Kn _ (XL k l m q s u) ((tP 42 2 0)::(tS 41 ar eF.length au)::(tB 38 true)::(tI 5 cL.2.2)::(PN cL a d)) _)=>?_
    refine Rk 19 4 ((tB 46 (dI == 0))::(tI 5 cL.2.2)::(PN cL a d)) cl p fun bx bg=>?_
    rcases Y2 ((dI == 0)) with ae | ae
    ·
     rw [ae,XW] at H
     have cm:Kn _ _ ((tB 46 true)::(tI 5 cL.2.2)::(PN cL a d)) _:=(bg.setB 46 true (by rfl) ae).kp
     refine Rk 23 4 ((tB 50 (cL.2.2 == 0))::(PN cL a d)) cm p fun bz bh=>?_
     rcases Y2 ((cL.2.2 == 0)) with af | af
     ·
      rw [af,XW] at H
      have cn:Kn _ _ ((tB 50 true)::(PN cL a d)) _:=(bh.setB 50 true (by rfl) af).kp
      refine Rk 27 4 [tB 54 (cL.2.1 == 0),tS 3 a cL.1.length d] cn p fun b0 bi=>?_
      rcases Y2 ((cL.2.1 == 0)) with ag | ag
      ·
       rw [ag,XW] at H
       have co:Kn _ _ [tB 54 true,tS 3 a cL.1.length d] _:=(bi.setB 54 true (by rfl) ag).kp
       refine Rk 31 5 [tB 59 (((cL.1.length:Nat):Int) == 1),tS 3 a cL.1.length d] co p fun b1 bj=>?_
       rcases Y2 ((((cL.1.length:Nat):Int) == 1)) with ah | ah
       ·
        rw [ah,XW] at H
        have cp:Kn _ _ [tB 59 true,tS 3 a cL.1.length d] _:=(bj.setB 59 true (by rfl) ah).kp
        refine Rk 36 1 [tS 60 a cL.1.length d,tB 59 true] cp p fun e4 bk=>?_
        obtain⟨x61,ex61,H⟩:=Ao H
        obtain⟨dt,dx,ef⟩:=Aj ex61
        obtain⟨a9,bv,ew,cd,eb,ch⟩:=d2.get (by decide) ef
        obtain rfl:=eb
        have bq:=p.addPlc (b:=a9) (o:=bv+Yc 0*1) (cs:=[XR x61]) (fun j c hj=>ch j _ (Ak hj)) rfl (by kernel_rfl) (by kernel_rfl)
        refine A9 37 (0) rfl rfl (Al bk (by kernel_rfl)) rfl (by decide) bk (by rfl) (by rfl) (by rfl) cd (by rfl) dt dx (by kernel_rfl) fun ek (cr:Kn _ [(k,l+Yc 0*1),(m,q+Yc 0*1),(s,u+Yc 0*1),(a9,bv+Yc 0*1)] [tP 61 3 0,tS 60 a cL.1.length d,tB 59 true] _)=>?_
        refine Rk 38 4 [tB 0 (x61 == 0)] cr bq fun e5 ct=>?_
        refine wf (wp_ret ?_)
        obtain rfl:=XZ H
        exact rt (.one (.c (.bool (x61 == 0)))) ct bq rfl
       rw [ah,XV] at H
       have cu:Kn _ _ [tB 59 false,tS 3 a cL.1.length d] _:=(bj.setB 59 false (by rfl) ah).kp
       refine Rk 36 6 [tB 0 false] cu p fun e6 cv=>?_
       refine wf (wp_ret ?_)
       obtain rfl:=XZ H
       exact rt (.one (.c (.bool false))) cv p rfl
      rw [ag,XV] at H
      have cw:Kn _ _ [tB 54 false,tS 3 a cL.1.length d] _:=(bi.setB 54 false (by rfl) ag).kp
      refine Rk 31 11 [tB 0 false] cw p fun e7 cx=>?_
      refine wf (wp_ret ?_)
      obtain rfl:=XZ H
      exact rt (.one (.c (.bool false))) cx p rfl
     rw [af,XV] at H
     have cy:Kn _ _ ((tB 50 false)::(PN cL a d)) _:=(bh.setB 50 false (by rfl) af).kp
     refine Rk 27 15 [tB 0 false] cy p fun e8 cz=>?_
     refine wf (wp_ret ?_)
     obtain rfl:=XZ H
     exact rt (.one (.c (.bool false))) cz p rfl
    rw [ae,XV] at H
    have c0:Kn _ _ ((tB 46 false)::(tI 5 cL.2.2)::(PN cL a d)) _:=(bg.setB 46 false (by rfl) ae).kp
    refine Rk 23 19 [tB 0 false] c0 p fun e9 c1=>?_
    refine wf (wp_ret ?_)
    obtain rfl:=XZ H
    exact rt (.one (.c (.bool false))) c1 p rfl
   rw [ad,XV] at H
   have c2:Kn _ _ ((tB 38 false)::(P3 cL a d e cI f)) _:=(bd.setB 38 false (by rfl) ad).kp
   refine Rk 15 27 [tB 0 false] c2 ak fun fa c3=>?_
   refine wf (wp_ret ?_)
   obtain rfl:=XZ H
   exact rt (.one (.c (.bool false))) c3 ak rfl
  rw [aj,XV] at H
  have c4:Kn _ _ ((tB 31 false)::(P3 cL a d e cI f)) _:=(bm.setB 31 false (by rfl) aj).kp
  refine Rk 8 34 [tB 0 false] c4 aa fun fc c6=>?_
  refine wf (wp_ret ?_)
  obtain rfl:=XZ H
  exact rt (.one (.c (.bool false))) c6 aa rfl
 rw [ai,XV] at H
 have c7:Kn _ _ ((tB 26 false)::(P3 cL a d e cI f)) _:=(bl.setB 26 false (by rfl) ai).kp
 refine Rk 3 39 [tB 0 false] c7 aa fun fd c8=>?_
 refine wf (wp_ret ?_)
 obtain rfl:=XZ H
 exact rt (.one (.c (.bool false))) c8 aa rfl
theorem Rz (n:Nat) {h:Ac} {w:World} (hh:CK h w) (l:List Int) {bK:Yd} {bL:Nat} (dP:At h bK bL l) {r:List Int} (H:JP n l=some r) :
  Calls Tryz.prog 49 #[.slice bK l.length bL] w (CP (fun h v=>∃ a c,v=.slice a r.length c∧At h a c r) h w):=by
 refine enter 5 [.c (Yb bK l.length bL)] Tryz.func49 rfl rfl rfl rfl fun t hk=>?_
 have hm:=Ai.begin h w hh
 unfold JP at H
 refine XT (Aa (Rk 0 1 [tS 0 bK l.length bL] hk hm fun ai y=>?_))
 refine wf (XT (Aa (Rk 0 1 [tS 3 bK l.length bL] y hm fun ak aa=>?_)))
 have p:Ai _ _ [] [] [⟨none,0,0,3,1,[],0⟩] _:=hm.nilRow 3 1
 have s:Ae h ([]:List Int) []:=Ae.nil
 obtain⟨f,e,af,_⟩:=id dP
 obtain⟨x4,ex4,H⟩:=Ao H
 obtain⟨m,ab⟩:=Bj ex4
 refine wl fun K hK=>?_
 refine AS 0 8 l.length _ (x4.length) _ f aa p rfl rfl (by decide) rfl (by rfl) (by kernel_rfl) (by rfl) (by rfl) (Ae.len e) (af.cell p.has e.one) e.one (by rw [m]; simp <;> omega) (by rw [m]; exact ab) (by decide) fun b d q ag ah u (x:Kn _ [] [tS 4 b x4.length d,tS 3 bK l.length bL] _) j=>?_
 have g:Ae h x4 ([]++f):=by rw [m]; exact Ae.append s e
 obtain rfl:q=0:=Nat.le_zero.1 u
 refine hK _ _ ?_
 refine Rk 2 1 [tS 2 b x4.length d] x j fun aj z=>?_
 refine wf (wp_ret ?_)
 obtain⟨o,ac,ae,k⟩:=j.settle (i:=0) rfl
 replace g:=g.mono ac
 replace k:Ai _ _ [] [] [⟨b,x4.length,d,3,1,[]++f,_⟩] _:=k
 have ad:At o b d x4:=⟨_,g,ae,j.rowCap (i:=0) rfl⟩
 obtain rfl:=XZ H
 exact rt (.one (.c (Yb b x4.length d))) z k ⟨_,_,rfl,ad⟩
theorem Mx (n:Nat) {h:Ac} {w:World} (hh:CK h w) (l:List (List Int)) {bK:Yd} {bL:Nat} (dP:At h bK bL l) {r:List (List Int)} (H:JQ n l=some r) :
  Calls Tryz.prog 22 #[.slice bK l.length bL] w (CP (fun h v=>∃ a c,v=.slice a r.length c∧At h a c r) h w):=by
 refine enter 20 [.c (Yb bK l.length bL)] Tryz.func22 rfl rfl rfl rfl fun t hk=>?_
 have hm:=Ai.begin h w hh
 unfold JQ at H
 refine XT (Aa (Rk 0 1 [tS 0 bK l.length bL] hk hm fun b8 a9=>?_))
 refine wf (XT (Aa (Rk 0 1 [tS 3 none 0 0,tS 0 bK l.length bL] a9 hm fun b9 bc=>?_)))
 refine wf (XT (XT (Aa (Rk 0 1 [tI 4 0,tS 3 none 0 0,tS 0 bK l.length bL] bc hm fun cc bf=>?_))))
 refine wf ?_
 have bq:Ai _ _ [] [] [⟨none,0,0,26,1,[],0⟩] _:=hm.nilRow 26 1
 have a6:Ae h ([]:List (List Int)) []:=Ae.nil
 obtain⟨m,ay,H⟩:=Ao H
 refine Ar (fun a' w'=>∃ (p:Yd)(q:Nat)(aa:Ye)(av:Array Value)(ad:Ac),a' = ⟨av,[]⟩∧Kn 20 [] [tS 3 p m.length q] av∧Ai ⟨w,h,BF⟩ ad [] [] [⟨p,m.length,q,26,1,aa,0⟩] w'∧Ac.le h ad∧Ae ad m aa) ?_ ?_
 ·
  refine wp_block ?_
  refine Av (fun b0 a' w'=>∃ (aB:List (List Int))(aA:Int)(e:Yd)(f:Nat)(x:Ye)(aw:Array Value)(ae:Ac),a' = ⟨aw,[]⟩∧Kn 20 [] [tI 4 aA,tS 3 e aB.length f,tS 0 bK l.length bL] aw∧Ai ⟨w,h,BF⟩ ae [] [] [⟨e,aB.length,f,26,1,x,0⟩] w'∧Ac.le h ae∧Ae ae aB x∧DH b0 l aB aA=some m) n ?_ ?_
  ·
   exact XY ([]:List (List Int)) ⟨0,none,0,[],_,_,rfl,bf.kp,bq,Ac.le_refl _,a6,ay⟩
  rintro ah _ ci ⟨aB,aA,e,f,x,aw,ae,rfl,ba,ag,an,af,d⟩
  clear ay
  obtain _ | ah:=ah
  ·
   rw [DH] at d; cases d
  rw [DH] at d
  replace dP:=dP.mono an
  refine XT (XT (Aa (Rk 0 4 [tB 8 (decide (aA<((l.length:Nat):Int))),tI 4 aA,tS 3 e aB.length f,tS 0 bK l.length bL] ba ag fun ca am=>?_)))
  refine wf (wC (decide (aA<((l.length:Nat):Int))) am (fun aj=>?_) (fun aj=>?_))
  ·
   rw [aj,XW] at d
   refine wp_skip (XT (wp_block (Aa (Rk 0 3 [tI 13 aA,tS 12 bK l.length bL,tS 11 e aB.length f,tI 4 aA,tS 0 bK l.length bL] am ag fun cb bb=>?_))))
   obtain⟨cQ,fX,d⟩:=Ao d
   obtain⟨br,bs,bz⟩:=Aj fX
   obtain⟨y,z,b6,a4,bx,a5⟩:=dP.get (by decide) bz
   obtain⟨s,u,rfl,bt⟩:=bx
   have ao:=ag.addPlc (b:=y) (o:=z+Yc aA*1) (cs:=[Yb s cQ.length u]) (fun j c hj=>a5 j _ (Ak hj)) rfl (by kernel_rfl) (by kernel_rfl)
   refine A9 3 (aA) rfl rfl (rfl) rfl (by decide) bb (by rfl) (by rfl) (by rfl) a4 (by rfl) br bs (by kernel_rfl) fun b1 (bd:Kn _ [(y,z+Yc aA*1)] [tP 14 0 0,tI 13 aA,tS 12 bK l.length bL,tS 11 e aB.length f,tI 4 aA,tS 0 bK l.length bL] _)=>?_
   refine Rk 4 1 [tS 15 s cQ.length u,tS 11 e aB.length f,tI 4 aA,tS 0 bK l.length bL] bd ao fun cd be=>?_
   obtain⟨cT,fT,d⟩:=Ao d
   refine wl fun K hK=>?_
   refine wc [.c (Yb s cQ.length u)] be ao (Rz ah ao.has cQ bt fT) fun ch ai cj a3 a0 bp=>?_
   replace af:=af.mono a0
   obtain⟨g,k,rfl,bu⟩:=a3
   refine⟨.one (.c (Yb g cT.length k)),rfl,fun b2 (bg:Kn _ [(y,z+Yc aA*1)] [tS 16 g cT.length k,tS 15 s cQ.length u,tS 11 e aB.length f,tI 4 aA,tS 0 bK l.length bL] _)=>hK _ _ ?_⟩
   refine wl fun K hK=>?_
   refine wS 26 1 [Yb g cT.length k] bg bp fun ax b3 ck (bh:Kn _ [(y,z+Yc aA*1)] [tS 17 ax 1 1,tS 16 g cT.length k,tS 15 s cQ.length u,tS 11 e aB.length f,tI 4 aA,tS 0 bK l.length bL] _) a1=>?_
   have al:Ae ai ([cT]:List (List Int)) ([.slice g cT.length k]:Ye):=⟨_,_,rfl,((Af bu):rep ai (cT:List Int) _),rfl⟩
   refine hK _ _ ?_
   obtain⟨cS,gW,d⟩:=Ao d
   obtain⟨au,bn⟩:=Bj gW
   refine wl fun K hK=>?_
   refine AS 0 24 1 _ (cS.length) _ ([.slice g cT.length k]:Ye) bh a1 rfl rfl (by decide) rfl (by rfl) (by kernel_rfl) (by rfl) (by rfl) (Ae.len al) (a1.rowCell (i:=1) rfl) al.one (by rw [au]; simp <;> omega) (by rw [au]; exact bn) (by decide) fun ab ac a2 b4 cl a8 (bi:Kn _ [(y,z+(aA:Int).toNat*1)] [tS 18 ab cS.length ac,tS 17 ax 1 1,tS 16 g cT.length k,tS 15 s cQ.length u,tS 11 e aB.length f,tI 4 aA,tS 0 bK l.length bL] _) ap=>?_
   have a7:Ae ai cS (x++([.slice g cT.length k]:Ye)):=by rw [au]; exact Ae.append af al
   obtain rfl:a2=0:=Nat.le_zero.1 a8
   refine hK _ _ ?_
   refine Rk 8 1 [tS 3 ab cS.length ac,tI 4 aA,tS 0 bK l.length bL] bi ap fun ce bj=>?_
   refine wf (Aa (Rk 0 3 [tI 4 (IntKind.i64.wrap (aA+1)),tS 3 ab cS.length ac,tS 0 bK l.length bL] bj ap fun cf bk=>?_))
   refine wf ?_
   exact XY ah ⟨Y4 _,XY cS ⟨IntKind.i64.wrap (aA+1),ab,ac,x++([.slice g cT.length k]:Ye),_,_,rfl,(bk.keep [4,3,0] (by rfl)).cut 0 (by kernel_rfl),(ap.cutRw 1).cutPl 0 (by kernel_rfl),XU an a0,a7,d⟩⟩
  rw [aj,XV] at d
  refine wp_exit ?_
  obtain rfl:=XZ d
  exact XY e ⟨f,x,_,_,rfl,am.kp,ag,an,af⟩
 rintro _ b5 ⟨p,q,aa,av,ad,rfl,bl,aq,b7,ak⟩
 refine XT (Aa (Rk 0 2 [tS 2 p m.length q] bl aq fun cg bm=>?_))
 refine wf (wp_ret ?_)
 obtain⟨az,bo,bw,ar⟩:=aq.settle (i:=0) rfl
 replace ak:=ak.mono bo
 replace ar:Ai _ _ [] [] [⟨p,m.length,q,26,1,aa,_⟩] _:=ar
 have bv:At az p q m:=⟨_,ak,bw,aq.rowCap (i:=0) rfl⟩
 obtain rfl:=XZ H
 exact rt (.one (.c (Yb p m.length q))) bm ar ⟨_,_,rfl,bv⟩
abbrev P4:List SC:=[XR 0,XR 0,Yb none 0 0,Yb none 0 0]
abbrev VX (t_:An)(l)(cI:List (List Int))(m):=([XR t_.places,XR t_.layover,Yb l cI.length m,Yb none 0 0]:List SC)
abbrev T6 (t_:An)(l)(cI:List (List Int))(m s)(q:List AH)(u):=([XR t_.places,XR t_.layover,Yb l cI.length m,Yb s q.length u]:List SC)
abbrev US (t_:An)(e f g k):=([⟨NW t_ e f g k,some 25⟩,⟨P4,some 36⟩,⟨P4,some 36⟩]:List C0)
abbrev VY (e)(t_:An)(f):=((tS 11 e t_.empty.length f)::(tI 9 t_.layover)::(tI 7 t_.places)::Kz:TM)
theorem PP (n:Nat) {h:Ac} {w:World} (hh:CK h w) (t_:An) {cN:Ye} (dL:rep h t_ cN) {r:An} (H:GV n t_=some r) :
  Calls Tryz.prog 8 #[.agg cN.toArray] w (CP (fun h v=>∃ cs,v=.agg cs.toArray∧rep h r cs) h w):=by
 obtain⟨_,_,rfl,rfl,⟨_,_,rfl,rfl,⟨_,_,rfl,⟨e,f,rfl,av⟩,⟨g,k,rfl,al⟩⟩⟩⟩:=dL
 refine enter 45 [.agg (NW t_ e f g k)] Tryz.func8 rfl rfl rfl rfl fun t hk=>?_
 have hm:=Ai.begin h w hh
 unfold GV at H
 refine XT (Aa (wl fun K hK=>?_))
 refine wb (.agg (NW t_ e f g k)) hk hm fun a du em (b5:Kn _ [(a,0)] [tP 1 0 0,tA 0 (NW t_ e f g k)] _) c6=>hK _ _ ?_
 refine wl fun K hK=>?_
 refine wa P4 b5 c6 fun d bt eg (ch:Kn _ [(a,0),(d,0)] [tP 2 1 0,tP 1 0 0,tA 0 (NW t_ e f g k)] _) ar=>hK _ _ ?_
 have cm:Kn _ _ Kz _:=ch.kp
 refine wf (XT (Au (by kernel_rfl) ?_))
 replace ar:=ar.drew
 refine Ax [] [(a,0),(d,0)] [⟨NW t_ e f g k,some 25⟩,⟨P4,some 36⟩] ?_
 refine Dr [0,1,2,3,4,5] (dn 5) (VY e t_ f) cm ar fun ds cn=>?_
 obtain⟨cI,iZ,H⟩:=Ao H
 have bg:Kn _ [(a,0),(d,0),(0,0)] (VY e t_ f) _:=cn.push (0,0) (by kernel_rfl)
 have a7:=ar.addPlc (b:=0) (o:=0) (cs:=[]) (fun j c hj=>by simp at hj) rfl (by kernel_rfl) (by kernel_rfl)
 refine BZ (e':=[(a,0),(d,0),(0,0)]) (pl':=[⟨NW t_ e f g k,some 25⟩,⟨P4,some 36⟩,⟨[],none⟩]) (fun _ hp=>hp.pop (Y8 rfl) (by kernel_rfl)) ?_
 refine BT (fun W=>∀ (p:Nat),∀ (l:Yd),∀ (m:Nat),∀ a' w',(∃ (aw:Array Value)(y:Ac),a' = ⟨aw,[]⟩∧Kn 45 [(a,0),(d,0),(p,0)] ((tP 3 2 0)::(tA 13 (VX t_ l cI m))::Kz) aw∧Ai ⟨w,h,BF⟩ y [(a,0),(d,0),(p,0)] (US t_ e f g k) [] w'∧Ac.le h y∧At y l m cI)→W [(a,0),(d,0),(p,0)] (US t_ e f g k) [7,6,8,5,4,3,2,1,0] a' w') ?_ (fun bs=>?_)
 ·
  intro p l m
  rintro _ ei ⟨aw,y,rfl,co,c7,bi,a8⟩
  replace al:=al.mono bi
  refine CU 9 rfl (by kernel_rfl) (by decide) (rfl) (by kernel_rfl) fun K hK=>?_
  refine DT 2 0 (.agg (VX t_ l cI m)) (VX t_ l cI m) co c7 fun dz cp bo=>hK _ _ ?_
  refine Ax [] [(a,0),(d,0),(p,0)] [⟨NW t_ e f g k,some 25⟩,⟨P4,some 36⟩,⟨VX t_ l cI m,some 36⟩] ?_
  have cq:Kn _ _ ((tP 3 2 0)::Kz) _:=cp.kp
  refine AL (by kernel_rfl) (XT (XT (Aa (Rk 0 1 ((tI 4 0)::(tP 3 2 0)::Kz) cq bo fun d5 cr=>?_))))
  refine wf ?_
  have c8:Ai _ _ [(a,0),(d,0),(p,0)] [⟨NW t_ e f g k,some 25⟩,⟨P4,some 36⟩,⟨VX t_ l cI m,some 36⟩] [⟨none,0,0,60,6,[],0⟩] _:=bo.nilRow 60 6
  have b2:Ae y ([]:List AH) []:=Ae.nil
  obtain⟨q,be,H⟩:=Ao H
  refine Ar (fun a' w'=>∃ (s:Yd)(u:Nat)(am:Ye)(bb:Array Value)(aq:Ac),a' = ⟨bb,[]⟩∧Kn 45 [(a,0),(d,0),(p,0)] [tP 3 2 0,tP 2 1 0] bb∧Ai ⟨w,h,BF⟩ aq [(a,0),(d,0),(p,0)] [⟨NW t_ e f g k,some 25⟩,⟨P4,some 36⟩,⟨T6 t_ l cI m s q u,some 36⟩] [⟨s,q.length,u,60,6,am,0⟩] w'∧Ac.le y aq∧Ae aq q am) ?_ ?_
  ·
   refine wp_block ?_
   refine Av (fun di a' w'=>∃ (aB:List AH)(aA:Int)(z:Yd)(ab:Nat)(ae:Ye)(bc:Array Value)(ac:Ac),a' = ⟨bc,[]⟩∧Kn 45 [(a,0),(d,0),(p,0)] (IE aA) bc∧Ai ⟨w,h,BF⟩ ac [(a,0),(d,0),(p,0)] [⟨NW t_ e f g k,some 25⟩,⟨P4,some 36⟩,⟨[XR t_.places,XR t_.layover,Yb l cI.length m,Yb z aB.length ab],some 36⟩] [⟨z,aB.length,ab,60,6,ae,0⟩] w'∧Ac.le y ac∧Ae ac aB ae∧Dv di t_ aB aA=some q) n ?_ ?_
   ·
    exact XY ([]:List AH) ⟨0,none,0,[],_,_,rfl,cr.kp,c8,Ac.le_refl _,b2,be⟩
   rintro ba _ ej ⟨aB,aA,z,ab,ae,bc,ac,rfl,ct,au,a2,bf,x⟩
   clear be
   obtain _ | ba:=ba
   ·
    rw [Dv] at x; cases x
   rw [Dv] at x
   replace al:=al.mono a2
   refine XT (XT (Aa (Rk 0 5 ((tB 18 (decide (aA<((t_.trips.length:Nat):Int))))::(IE aA)) ct au fun d6 a1=>?_)))
   refine wf (wC (decide (aA<((t_.trips.length:Nat):Int))) a1 (fun ay=>?_) (fun ay=>?_))
   ·
    rw [ay,XW] at x
    refine wp_skip (XT (wp_block (XT (Aa (Rk 0 3 ((tI 23 aA)::(tS 22 g t_.trips.length k)::(IE aA)) a1 au fun d7 cu=>?_)))))
    obtain⟨dA,gV,x⟩:=Ao x
    obtain⟨da,db,dh⟩:=Aj gV
    obtain⟨aa,ad,d0,b0,dg,b3⟩:=al.get (by decide) dh
    obtain⟨_,_,rfl,rfl,⟨_,_,rfl,rfl,⟨_,_,rfl,rfl,⟨_,_,rfl,rfl,⟨_,_,rfl,rfl,rfl⟩⟩⟩⟩⟩:=dg
    have bp:=au.addPlc (b:=aa) (o:=ad+Yc aA*6) (cs:=(VU dA)) (fun j c hj=>b3 j _ (Ak hj)) rfl (by kernel_rfl) (by kernel_rfl)
    refine A9 3 (aA) rfl rfl (rfl) rfl (by decide) cu (by rfl) (by rfl) (by rfl) b0 (by rfl) da db (by kernel_rfl) fun dt (cv:Kn _ [(a,0),(d,0),(p,0),(aa,ad+Yc aA*6)] ((tP 24 3 0)::(tI 23 aA)::(tS 22 g t_.trips.length k)::(IE aA)) _)=>?_
    refine Rk 4 1 ((tA 25 (VU dA))::(IE aA)) cv bp fun d8 cw=>?_
    refine wl fun K hK=>?_
    refine wa [XR 0,XR 0,XR 0,XR 0,XR 0,XR 0] cw bp fun ai bu ek (cx:Kn _ [(a,0),(d,0),(p,0),(aa,ad+Yc aA*6),(ai,0)] ((tP 5 4 0)::(tA 25 (VU dA))::(IE aA)) _) c9=>hK _ _ ?_
    refine wl fun K hK=>?_
    refine DT 4 0 (.agg (VU dA)) (VU dA) cx c9 fun el cy bq=>hK _ _ ?_
    have cz:Kn _ _ ((tP 5 4 0)::(IE aA)) _:=cy.kp
    refine wf (Aa (Rk 0 15 ((tA 40 (VU dA))::(tS 27 z aB.length ab)::(IE aA)) cz bq fun d9 c0=>?_))
    refine wl fun K hK=>?_
    refine wS 60 6 (VU dA) c0 bq fun bd dv en (c1:Kn _ [(a,0),(d,0),(p,0),(aa,ad+Yc aA*6),(ai,0)] ((tS 41 bd 1 1)::(tA 40 (VU dA))::(tS 27 z aB.length ab)::(IE aA)) _) br=>?_
    have a0:Ae ac ([dA]:List AH) ([.int .i64 dA.fr,.int .i64 dA.to_,.int .i64 dA.start,.int .i64 dA.least,.int .i64 dA.most,.int .i64 dA.kind]:Ye):=⟨_,_,rfl,((Ab Ad (Ab Ad (Ab Ad (Ab Ad (Ab Ad Ad))))):rep ac (dA:AH) _),rfl⟩
    refine hK _ _ ?_
    obtain⟨dI,iC,x⟩:=Ao x
    obtain⟨a9,c2⟩:=Bj iC
    refine wl fun K hK=>?_
    refine AS 0 48 1 _ (dI.length) _ ([.int .i64 dA.fr,.int .i64 dA.to_,.int .i64 dA.start,.int .i64 dA.least,.int .i64 dA.most,.int .i64 dA.kind]:Ye) c1 br rfl rfl (by decide) rfl (by rfl) (by kernel_rfl) (by rfl) (by rfl) (Ae.len a0) (br.rowCell (i:=1) rfl) a0.one (by rw [a9]; simp <;> omega) (by rw [a9]; exact c2) (by decide) fun af aj bv dj ec b4 (b6:Kn _ [(a,0),(d,0),(p,0),(aa,ad+(aA:Int).toNat*6),(ai,0)] ((tS 42 af dI.length aj)::(tS 41 bd 1 1)::(tA 40 (VU dA))::(tS 27 z aB.length ab)::(IE aA)) _) bj=>?_
    have b1:Ae ac dI (ae++([.int .i64 dA.fr,.int .i64 dA.to_,.int .i64 dA.start,.int .i64 dA.least,.int .i64 dA.most,.int .i64 dA.kind]:Ye)):=by rw [a9]; exact Ae.append bf a0
    obtain rfl:bv=0:=Nat.le_zero.1 b4
    refine hK _ _ ?_
    refine Rk 17 1 ((tP 43 2 3)::(tS 42 af dI.length aj)::(IE aA)) b6 bj fun dk b7=>?_
    refine wl fun K hK=>?_
    refine DT 2 3 (.c (Yb af dI.length aj)) [XR t_.places,XR t_.layover,Yb l cI.length m,Yb af dI.length aj] b7 bj fun ed b8 bk=>hK _ _ ?_
    have b9:Kn _ _ (IE aA) _:=b8.kp
    refine wf (Aa (Rk 0 3 ((tI 4 (IntKind.i64.wrap (aA+1)))::(tP 3 2 0)::Kz) b9 bk fun d2 ca=>?_))
    refine wf ?_
    exact XY ba ⟨Y4 _,XY dI ⟨IntKind.i64.wrap (aA+1),af,aj,ae++([.int .i64 dA.fr,.int .i64 dA.to_,.int .i64 dA.start,.int .i64 dA.least,.int .i64 dA.most,.int .i64 dA.kind]:Ye),_,_,rfl,(ca.keep [4,3,2,1] (by rfl)).cut 3 (by kernel_rfl),(bk.cutRw 1).cutPl 3 (by kernel_rfl),a2,b1,x⟩⟩
   rw [ay,XV] at x
   refine wp_exit ?_
   obtain rfl:=XZ x
   exact XY z ⟨ab,ae,_,_,rfl,a1.kp,au,a2,bf⟩
  rintro _ ee ⟨s,u,am,bb,aq,rfl,cb,bl,c3,az⟩
  refine XT (Aa (Rk 0 1 [tA 44 (T6 t_ l cI m s q u),tP 2 1 0] cb bl fun dl cc=>?_))
  refine wl fun K hK=>?_
  refine DT 1 0 (.agg (T6 t_ l cI m s q u)) (T6 t_ l cI m s q u) cc bl fun dw cd bm=>hK _ _ ?_
  have ce:Kn _ _ [tP 2 1 0] _:=cd.kp
  refine wf (wp_ret ?_)
  obtain⟨ax,bh,df,a3⟩:=bm.settle (i:=0) rfl
  replace a8:=a8.mono (XU c3 bh)
  replace az:=az.mono bh
  replace a3:Ai _ _ [(a,0),(d,0),(p,0)] [⟨NW t_ e f g k,some 25⟩,⟨T6 t_ l cI m s q u,some 36⟩,⟨T6 t_ l cI m s q u,some 36⟩] [⟨s,q.length,u,60,6,am,_⟩] _:=a3
  have dc:At ax s u q:=⟨_,az,df,bm.rowCap (i:=0) rfl⟩
  obtain rfl:=XZ H
  exact rt (.one (.agg (T6 t_ l cI m s q u))) ce a3 ⟨_,rfl,((Ab Ad (Ab Ad (Ab (Af a8) (Af dc)))):rep ax ((An.mk t_.places t_.layover cI q):An) _)⟩
 refine Gn 6 8 rfl rfl (by kernel_rfl) (by decide) (rfl) (rfl) (fun K hK=>?_) (fun K hK=>?_)
 ·
  refine wc [.c (Yb e t_.empty.length f)] bg a7 (Mx n a7.has t_.empty av iZ) fun ea bz ef bw c4 a4=>?_
  obtain⟨ag,ak,rfl,dd⟩:=bw
  refine⟨.one (.c (Yb ag cI.length ak)),rfl,fun dm (cf:Kn _ [(a,0),(d,0),(0,0)] ((tS 12 ag cI.length ak)::(VY e t_ f)) _)=>hK _ _ a4.plOk ?_⟩
  refine Dr [7] (dn 7) ((tA 13 [XR t_.places,XR t_.layover,Yb ag cI.length ak,Yb none 0 0])::Kz) cf a4 fun d3 cg=>?_
  refine Dl 8 fun K hK=>?_
  refine MO 2 P4 cg a4 fun ao dp dx (ci:Kn _ [(a,0),(d,0),(ao,0)] ((tP 3 2 0)::(tA 13 [XR t_.places,XR t_.layover,Yb ag cI.length ak,Yb none 0 0])::Kz) _) (bn:Ai _ _ [(a,0),(d,0),(ao,0)] (US t_ e f g k) [] _)=>hK _ _ (Ay.unset 2 rfl (by kernel_rfl) bn.plOk) (BZ (e':=[(a,0),(d,0),(ao,0)]) (pl':=(US t_ e f g k)) (fun _ hp=>hp.unset 2 rfl (by kernel_rfl)) ?_)
  refine AK [7,6,8,5,4,3,2,1,0] (by kernel_rfl) (by rfl) (bs ao ag ak _ _ ?_)
  exact XY _ ⟨_,rfl,ci.kp,bn,c4,dd⟩
 refine MO 2 P4 bg a7 fun ah dq dy (cj:Kn _ [(a,0),(d,0),(ah,0)] ((tP 3 2 0)::(VY e t_ f)) _) (a5:Ai _ _ [(a,0),(d,0),(ah,0)] (US t_ e f g k) [] _)=>hK _ _ (Ay.unset 2 rfl (by kernel_rfl) a5.plOk) (BZ (e':=[(a,0),(d,0),(ah,0)]) (pl':=(US t_ e f g k)) (fun _ hp=>hp.unset 2 rfl (by kernel_rfl)) ?_)
 refine Dl 6 fun K hK=>?_
 refine wc [.c (Yb e t_.empty.length f)] cj a5 (Mx n a5.has t_.empty av iZ) fun eb d1 eh bx c5 a6=>?_
 obtain⟨an,ap,rfl,de⟩:=bx
 refine⟨.one (.c (Yb an cI.length ap)),rfl,fun dr (ck:Kn _ [(a,0),(d,0),(ah,0)] ((tS 12 an cI.length ap)::(tP 3 2 0)::(VY e t_ f)) _)=>hK _ _ a6.plOk ?_⟩
 refine Dr [7] [7,6,8,5,4,3,2,1,0] ((tA 13 [XR t_.places,XR t_.layover,Yb an cI.length ap,Yb none 0 0])::(tP 3 2 0)::Kz) ck a6 fun d4 cl=>?_
 refine AK [7,6,8,5,4,3,2,1,0] (by kernel_rfl) (by rfl) (bs ah an ap _ _ ?_)
 exact XY _ ⟨_,rfl,cl.kp,a6,c5,de⟩
theorem PQ (n:Nat) {h:Ac} {w:World} (hh:CK h w) (t_:An) {cN:Ye} (dL:rep h t_ cN) (trip:Int) (takes:Int) (place:Int) {r:Int} (H:Ir n t_ trip takes place=some r) :
  Calls Tryz.prog 50 #[.agg cN.toArray,.int .i64 trip,.int .i64 takes,.int .i64 place] w (CP (fun h v=>v=.int .i64 r) h w):=by
 obtain⟨_,_,rfl,rfl,⟨_,_,rfl,rfl,⟨_,_,rfl,⟨a,e,rfl,a6⟩,⟨d,f,rfl,a8⟩⟩⟩⟩:=dL
 refine enter 32 [.agg (NW t_ a e d f),.c (XR trip),.c (XR takes),.c (XR place)] Tryz.func50 rfl rfl rfl rfl fun t hk=>?_
 have hm:=Ai.begin h w hh
 unfold Ir at H
 refine XT (Aa (wl fun K hK=>?_))
 refine wb (.agg (NW t_ a e d f)) hk hm fun i bi bu (ak:Kn _ [(i,0)] [tP 4 0 0,tA 0 (NW t_ a e d f),tI 1 trip,tI 2 takes,tI 3 place] _) u=>hK _ _ ?_
 refine Rk 1 1 [tP 4 0 0,tI 1 trip,tI 2 takes,tI 3 place] ak u fun bm al=>?_
 refine wf (XT (Aa (Rk 0 3 [tI 12 trip,tS 11 d t_.trips.length f,tP 4 0 0,tI 2 takes,tI 3 place] al u fun bn am=>?_)))
 obtain⟨cC,fY,H⟩:=Ao H
 obtain⟨a0,a3,bc⟩:=Aj fY
 obtain⟨g,k,bj,ae,a9,ah⟩:=a8.get (by decide) bc
 obtain⟨_,_,rfl,rfl,⟨_,_,rfl,rfl,⟨_,_,rfl,rfl,⟨_,_,rfl,rfl,⟨_,_,rfl,rfl,rfl⟩⟩⟩⟩⟩:=a9
 have aa:=u.addPlc (b:=g) (o:=k+Yc trip*6) (cs:=(VU cC)) (fun j c hj=>ah j _ (Ak hj)) rfl (by kernel_rfl) (by kernel_rfl)
 refine A9 3 (trip) rfl rfl (rfl) rfl (by decide) am (by rfl) (by rfl) (by rfl) ae (by rfl) a0 a3 (by kernel_rfl) fun bf (an:Kn _ [(i,0),(g,k+Yc trip*6)] [tP 13 1 0,tI 12 trip,tS 11 d t_.trips.length f,tP 4 0 0,tI 2 takes,tI 3 place] _)=>?_
 refine Rk 4 1 [tA 14 (VU cC),tP 4 0 0,tI 2 takes,tI 3 place] an aa fun bo ao=>?_
 refine wl fun K hK=>?_
 refine wa [XR 0,XR 0,XR 0,XR 0,XR 0,XR 0] ao aa fun l ad bs (ap:Kn _ [(i,0),(g,k+Yc trip*6),(l,0)] [tP 9 2 0,tA 14 (VU cC),tP 4 0 0,tI 2 takes,tI 3 place] _) az=>hK _ _ ?_
 refine wl fun K hK=>?_
 refine DT 2 0 (.agg (VU cC)) (VU cC) ap az fun bt aq m=>hK _ _ ?_
 have ar:Kn _ _ [tP 9 2 0,tP 4 0 0,tI 2 takes,tI 3 place] _:=aq.kp
 refine wf (XT (Au (by kernel_rfl) ?_))
 replace m:=m.drew
 refine Ax [] [(i,0),(g,k+Yc trip*6),(l,0)] [⟨NW t_ a e d f,some 25⟩,⟨VU cC,none⟩,⟨VU cC,some 46⟩] ?_
 refine Dr [0,1,2,3,4,5,6,7,8,9,10] (dn 10) [tI 25 cC.to_,tS 23 a t_.empty.length e,tI 21 (IntKind.i64.wrap ((IntKind.i64.wrap (cC.start+takes))+t_.layover)),tI 3 place] ar m fun bp au=>?_
 obtain⟨cJ,gD,H⟩:=Ao H
 obtain⟨a1,a4,bd⟩:=Aj gD
 obtain⟨s,y,bk,af,ba,ai⟩:=a6.get (by decide) bd
 obtain⟨p,q,rfl,a7⟩:=ba
 have x:=m.addPlc (b:=s) (o:=y+(cC.to_:Int).toNat*1) (cs:=[Yb p cJ.length q]) (fun j c hj=>ai j _ (Ak hj)) rfl (by kernel_rfl) (by kernel_rfl)
 refine A5 11 (cC.to_) [Yb p cJ.length q] (fun _ _ _ _ _ h=>h) rfl rfl (rfl) rfl (by decide) (by kernel_rfl) (by kernel_rfl) au m.plOk (by rfl) (by rfl) (by rfl) af (by rfl) a1 a4 (by kernel_rfl) fun bg (av:Kn _ [(i,0),(g,k+Yc trip*6),(l,0),(s,y+(cC.to_:Int).toNat*1)] [tP 26 3 0,tI 25 cC.to_,tS 23 a t_.empty.length e,tI 21 (IntKind.i64.wrap ((IntKind.i64.wrap (cC.start+takes))+t_.layover)),tI 3 place] _)=>?_
 refine Dr [12,13] (dn 13) [tI 28 place,tS 27 p cJ.length q,tI 21 (IntKind.i64.wrap ((IntKind.i64.wrap (cC.start+takes))+t_.layover))] av x fun bq aw=>?_
 obtain⟨gN,iQ,H⟩:=Ao H
 obtain⟨a2,a5,be⟩:=Aj iQ
 obtain⟨z,ac,bl,ag,bb,aj⟩:=a7.get (by decide) be
 obtain rfl:=bb
 have ab:=x.addPlc (b:=z) (o:=ac+Yc place*1) (cs:=[XR gN]) (fun j c hj=>aj j _ (Ak hj)) rfl (by kernel_rfl) (by kernel_rfl)
 refine A5 14 (place) [XR gN] (fun _ _ _ _ _ h=>h) rfl rfl (rfl) rfl (by decide) (by kernel_rfl) (by kernel_rfl) aw x.plOk (by rfl) (by rfl) (by rfl) ag (by rfl) a2 a5 (by kernel_rfl) fun bh (ax:Kn _ [(i,0),(g,k+Yc trip*6),(l,0),(s,y+(cC.to_:Int).toNat*1),(z,ac+Yc place*1)] [tP 29 4 0,tI 28 place,tS 27 p cJ.length q,tI 21 (IntKind.i64.wrap ((IntKind.i64.wrap (cC.start+takes))+t_.layover))] _)=>?_
 refine Dr [15,16,17] (dn 17) [tI 8 (IntKind.i64.wrap ((IntKind.i64.wrap ((IntKind.i64.wrap (cC.start+takes))+t_.layover))+gN))] ax ab fun br ay=>?_
 refine AL (by kernel_rfl) (wp_ret ?_)
 obtain rfl:=XZ H
 exact rt (.one (.c (XR (IntKind.i64.wrap ((IntKind.i64.wrap ((IntKind.i64.wrap (cC.start+takes))+t_.layover))+gN))))) ay ab rfl
abbrev GB:List SC:=[XR 0,XR 0,XR 0,XR 0,XR 0,XR 0]
abbrev Q6 (a d)(e:Nat)(first:Int)(f)(g:Nat)(next:Int)(p q):=([(a,0),(d,e+Yc first*6),(f,g+Yc next*6),(p,0),(q,0)]:AJ)
abbrev NP (dX:AH)(cI:AH)(first next):=([tA 18 (VU dX),tA 13 (VU cI),tP 3 0 0,tI 1 first,tI 2 next]:TM)
abbrev Q7 (first):=([tP 8 4 0,tP 7 3 0,tP 3 0 0,tI 1 first]:TM)
theorem SJ (n:Nat) {h:Ac} {w:World} (hh:CK h w) (t_:An) {cN:Ye} (dL:rep h t_ cN) (first:Int) (next:Int) {r:Bool} (H:HQ n t_ first next=some r) :
  Calls Tryz.prog 23 #[.agg cN.toArray,.int .i64 first,.int .i64 next] w (CP (fun h v=>v=.bool r) h w):=by
 obtain⟨_,_,rfl,rfl,⟨_,_,rfl,rfl,⟨_,_,rfl,⟨l,m,rfl,ai⟩,⟨i,k,rfl,ab⟩⟩⟩⟩:=dL
 refine enter 41 [.agg (NW t_ l m i k),.c (XR first),.c (XR next)] Tryz.func23 rfl rfl rfl rfl fun t hk=>?_
 have hm:=Ai.begin h w hh
 unfold HQ at H
 refine XT (Aa (wl fun K hK=>?_))
 refine wb (.agg (NW t_ l m i k)) hk hm fun a b9 cy (a6:Kn _ [(a,0)] [tP 3 0 0,tA 0 (NW t_ l m i k),tI 1 first,tI 2 next] _) y=>hK _ _ ?_
 refine Rk 1 1 [tP 3 0 0,tI 1 first,tI 2 next] a6 y fun cl a9=>?_
 refine wf (XT (Au (by kernel_rfl) ?_))
 replace y:=y.drew
 refine Ax [] [(a,0)] [⟨NW t_ l m i k,some 25⟩] ?_
 refine Dr [0,1,2] [2,1,0] [tI 11 first,tS 10 i t_.trips.length k,tP 3 0 0,tI 1 first,tI 2 next] a9 y fun cm ba=>?_
 obtain⟨cI,iZ,H⟩:=Ao H
 obtain⟨bw,bz,b3⟩:=Aj iZ
 obtain⟨d,e,ch,a2,b1,a4⟩:=ab.get (by decide) b3
 obtain⟨_,_,rfl,rfl,⟨_,_,rfl,rfl,⟨_,_,rfl,rfl,⟨_,_,rfl,rfl,⟨_,_,rfl,rfl,rfl⟩⟩⟩⟩⟩:=b1
 have ag:=y.addPlc (b:=d) (o:=e+Yc first*6) (cs:=(VU cI)) (fun j c hj=>a4 j _ (Ak hj)) rfl (by kernel_rfl) (by kernel_rfl)
 refine A5 3 (first) (VU cI) (fun _ _ _ _ _ h=>h) rfl rfl (rfl) rfl (by decide) (by kernel_rfl) (by kernel_rfl) ba y.plOk (by rfl) (by rfl) (by rfl) a2 (by rfl) bw bz (by kernel_rfl) fun b7 (bb:Kn _ [(a,0),(d,e+Yc first*6)] [tP 12 1 0,tI 11 first,tS 10 i t_.trips.length k,tP 3 0 0,tI 1 first,tI 2 next] _)=>?_
 refine Dr [4,5,6,7] (dn 7) [tI 16 next,tS 15 i t_.trips.length k,tA 13 (VU cI),tP 3 0 0,tI 1 first,tI 2 next] bb ag fun cn bc=>?_
 obtain⟨dX,jW,H⟩:=Ao H
 obtain⟨bx,b0,b4⟩:=Aj jW
 obtain⟨f,g,ci,a3,b2,a5⟩:=ab.get (by decide) b4
 obtain⟨_,_,rfl,rfl,⟨_,_,rfl,rfl,⟨_,_,rfl,rfl,⟨_,_,rfl,rfl,⟨_,_,rfl,rfl,rfl⟩⟩⟩⟩⟩:=b2
 have aq:=ag.addPlc (b:=f) (o:=g+Yc next*6) (cs:=(VU dX)) (fun j c hj=>a5 j _ (Ak hj)) rfl (by kernel_rfl) (by kernel_rfl)
 refine A5 8 (next) (VU dX) (fun _ _ _ _ _ h=>h) rfl rfl (rfl) rfl (by decide) (by kernel_rfl) (by kernel_rfl) bc ag.plOk (by rfl) (by rfl) (by rfl) a3 (by rfl) bx b0 (by kernel_rfl) fun b8 (bd:Kn _ [(a,0),(d,e+Yc first*6),(f,g+Yc next*6)] [tP 17 2 0,tI 16 next,tS 15 i t_.trips.length k,tA 13 (VU cI),tP 3 0 0,tI 1 first,tI 2 next] _)=>?_
 refine Dr [9] (dn 9) (NP dX cI first next) bd aq fun ay be=>?_
 have bf:Kn _ [(a,0),(d,e+Yc first*6),(f,g+Yc next*6),(0,0)] (NP dX cI first next) _:=be.push (0,0) (by kernel_rfl)
 have bu:=aq.addPlc (b:=0) (o:=0) (cs:=[]) (fun j c hj=>by simp at hj) rfl (by kernel_rfl) (by kernel_rfl)
 refine BZ (e':=[(a,0),(d,e+Yc first*6),(f,g+Yc next*6),(0,0)]) (pl':=[⟨NW t_ l m i k,some 25⟩,⟨VU cI,none⟩,⟨VU dX,none⟩,⟨[],none⟩]) (fun _ hp=>hp.pop (Y8 rfl) (by kernel_rfl)) ?_
 have aj:Kn _ [(a,0),(d,e+Yc first*6),(f,g+Yc next*6),(0,0),(0,0)] (NP dX cI first next) _:=bf.push (0,0) (by kernel_rfl)
 have ar:=bu.addPlc (b:=0) (o:=0) (cs:=[]) (fun j c hj=>by simp at hj) rfl (by kernel_rfl) (by kernel_rfl)
 refine BZ (e':=[(a,0),(d,e+Yc first*6),(f,g+Yc next*6),(0,0),(0,0)]) (pl':=[⟨NW t_ l m i k,some 25⟩,⟨VU cI,none⟩,⟨VU dX,none⟩,⟨[],none⟩,⟨[],none⟩]) (fun _ hp=>hp.pop (Y8 rfl) (by kernel_rfl)) ?_
 refine BT (fun W=>∀ (p:Nat),∀ (q:Nat),∀ a' w',(∃ (af:Array Value)(ae:Ac),a' = ⟨af,[]⟩∧Kn 41 (Q6 a d e first f g next p q) ((tP 8 4 0)::(tP 7 3 0)::(NP dX cI first next)) af∧Ai ⟨w,h,BF⟩ ae (Q6 a d e first f g next p q) [⟨NW t_ l m i k,some 25⟩,⟨VU cI,none⟩,⟨VU dX,none⟩,⟨GB,some 46⟩,⟨GB,some 46⟩] [] w'∧Ac.le h ae)→W (Q6 a d e first f g next p q) [⟨NW t_ l m i k,some 25⟩,⟨VU cI,none⟩,⟨VU dX,none⟩,⟨[],some 46⟩,⟨GB,some 46⟩] [10,11,9,8,7,6,5,4,3,2,1,0] a' w') ?_ (fun ax=>?_)
 ·
  intro p q
  rintro _ cu ⟨af,ae,rfl,bg,bv,an⟩
  replace ai:=ai.mono an
  replace ab:=ab.mono an
  refine Dl 12 fun K hK=>?_
  refine DT 3 0 (.agg (VU cI)) (VU cI) bg bv fun cv bh au=>hK _ _ (Ay.forget [3] au.plOk) ?_
  refine CU 13 rfl (by kernel_rfl) (by decide) (rfl) (by kernel_rfl) fun K hK=>?_
  refine DT 4 0 (.agg (VU dX)) (VU dX) bh au fun cw bi s=>hK _ _ ?_
  refine Ax [] (Q6 a d e first f g next p q) [⟨NW t_ l m i k,some 25⟩,⟨VU cI,none⟩,⟨VU dX,none⟩,⟨[],some 46⟩,⟨VU dX,some 46⟩] ?_
  have bj:Kn _ _ [tP 8 4 0,tP 7 3 0,tP 3 0 0,tI 1 first,tI 2 next] _:=bi.kp
  refine AL (by kernel_rfl) (XT (Au (by kernel_rfl) ?_))
  replace s:=s.drew
  refine Ax [] (Q6 a d e first f g next p q) [⟨NW t_ l m i k,some 25⟩,⟨VU cI,none⟩,⟨VU dX,none⟩,⟨VU cI,some 46⟩,⟨VU dX,some 46⟩] ?_
  refine Dr [0,1,2,3] (dn 3) ((tB 22 (first != next))::(Q7 first)) bj s fun az ak=>?_
  rcases Y2 ((first != next)) with z | z
  ·
   rw [z,XW] at H
   have bk:Kn _ _ ((tB 22 true)::(Q7 first)) _:=(ak.setB 22 true (by rfl) z).kp
   refine Dr [4,5,6,7,8,9,10] (dn 10) ((tB 29 (cI.kind == dX.kind))::(Q7 first)) bk s fun a0 al=>?_
   rcases Y2 ((cI.kind == dX.kind)) with aa | aa
   ·
    rw [aa,XW] at H
    have bl:Kn _ _ ((tB 29 true)::(Q7 first)) _:=(al.setB 29 true (by rfl) aa).kp
    refine Dr [11,12,13,14,15,16,18,19] [19,18,16,15,14,13,12,11,10,9,8,7,6,5,4,3,2,1,0] [tI 38 dX.start,tI 35 dX.fr,tI 33 cI.most,tI 31 first,tA 30 (NW t_ l m i k),tB 29 true] bl s fun co am=>?_
    obtain⟨cD,jZ,H⟩:=Ao H
    refine QQ 17 rfl (by kernel_rfl) (by decide) (Al am (by kernel_rfl)) fun K hK=>?_
    refine wc [.agg (NW t_ l m i k),.c (XR first),.c (XR cI.most),.c (XR dX.fr)] am s (PQ n s.has t_ ((Ab Ad (Ab Ad (Ab (Af ai) (Af ab)))):rep ae t_ _) first cI.most dX.fr jZ) fun ct cj cx a1 ck ah=>?_
    obtain rfl:=a1
    refine⟨.one (.c (XR cD)),rfl,fun ca (bm:Kn _ (Q6 a d e first f g next p q) [tI 36 cD,tI 38 dX.start,tI 35 dX.fr,tI 33 cI.most,tI 31 first,tA 30 (NW t_ l m i k),tB 29 true] _)=>hK _ _ ah.plOk ?_⟩
    refine Dr [20,21,22] [22,21,20,17,19,18,16,15,14,13,12,11,10,9,8,7,6,5,4,3,2,1,0] [tB 6 (decide (cD≤dX.start))] bm ah fun cp bn=>?_
    refine AL (by kernel_rfl) (wp_ret ?_)
    obtain rfl:=XZ H
    exact rt (.one (.c (.bool (decide (cD≤dX.start))))) bn ah rfl
   rw [aa,XV] at H
   have bo:Kn _ _ ((tB 29 false)::(Q7 first)) _:=(al.setB 29 false (by rfl) aa).kp
   refine Dr [11,12,13,14,15,16,17,18,19,20,21,22] (dn 22) [tB 6 false] bo s fun cq bp=>?_
   refine AL (by kernel_rfl) (wp_ret ?_)
   obtain rfl:=XZ H
   exact rt (.one (.c (.bool false))) bp s rfl
  rw [z,XV] at H
  have bq:Kn _ _ ((tB 22 false)::(Q7 first)) _:=(ak.setB 22 false (by rfl) z).kp
  refine Dr [4,5,6,7,8,9,10,11,12,13,14,15,16,17,18,19,20,21,22] (dn 22) [tB 6 false] bq s fun cr br=>?_
  refine AL (by kernel_rfl) (wp_ret ?_)
  obtain rfl:=XZ H
  exact rt (.one (.c (.bool false))) br s rfl
 refine Gn 10 11 rfl rfl (by kernel_rfl) (by decide) (rfl) (rfl) (fun K hK=>?_) (fun K hK=>?_)
 ·
  refine MO 3 GB aj ar fun x cb cf (bs:Kn _ [(a,0),(d,e+Yc first*6),(f,g+Yc next*6),(x,0),(0,0)] ((tP 7 3 0)::(NP dX cI first next)) _) (av:Ai _ _ [(a,0),(d,e+Yc first*6),(f,g+Yc next*6),(x,0),(0,0)] [⟨NW t_ l m i k,some 25⟩,⟨VU cI,none⟩,⟨VU dX,none⟩,⟨GB,some 46⟩,⟨[],none⟩] [] _)=>hK _ _ (Ay.unset 3 rfl (by kernel_rfl) (Ay.forget [3] av.plOk)) (BZ (e':=[(a,0),(d,e+Yc first*6),(f,g+Yc next*6),(x,0),(0,0)]) (pl':=[⟨NW t_ l m i k,some 25⟩,⟨VU cI,none⟩,⟨VU dX,none⟩,⟨[],some 46⟩,⟨[],none⟩]) (fun _ hp=>hp.unset 3 rfl (by kernel_rfl)) ?_)
  refine Dl 11 fun K hK=>?_
  refine MO 4 GB bs av fun ad cc cg (bt:Kn _ [(a,0),(d,e+Yc first*6),(f,g+Yc next*6),(x,0),(ad,0)] ((tP 8 4 0)::(tP 7 3 0)::(NP dX cI first next)) _) (aw:Ai _ _ [(a,0),(d,e+Yc first*6),(f,g+Yc next*6),(x,0),(ad,0)] [⟨NW t_ l m i k,some 25⟩,⟨VU cI,none⟩,⟨VU dX,none⟩,⟨GB,some 46⟩,⟨GB,some 46⟩] [] _)=>hK _ _ (Ay.unset 4 rfl (by kernel_rfl) (Ay.forget [3] aw.plOk)) (BZ (e':=[(a,0),(d,e+Yc first*6),(f,g+Yc next*6),(x,0),(ad,0)]) (pl':=[⟨NW t_ l m i k,some 25⟩,⟨VU cI,none⟩,⟨VU dX,none⟩,⟨[],some 46⟩,⟨GB,some 46⟩]) (fun _ hp=>hp.unset 4 rfl (by kernel_rfl)) ?_)
  refine AK [10,11,9,8,7,6,5,4,3,2,1,0] (by kernel_rfl) (by rfl) (ax x ad _ _ ?_)
  exact XY _ ⟨_,rfl,bt.kp,aw,Ac.le_refl _⟩
 refine MO 4 GB aj ar fun u b5 cd (a7:Kn _ [(a,0),(d,e+Yc first*6),(f,g+Yc next*6),(0,0),(u,0)] ((tP 8 4 0)::(NP dX cI first next)) _) (ao:Ai _ _ [(a,0),(d,e+Yc first*6),(f,g+Yc next*6),(0,0),(u,0)] [⟨NW t_ l m i k,some 25⟩,⟨VU cI,none⟩,⟨VU dX,none⟩,⟨[],none⟩,⟨GB,some 46⟩] [] _)=>hK _ _ (Ay.unset 4 rfl (by kernel_rfl) ao.plOk) (BZ (e':=[(a,0),(d,e+Yc first*6),(f,g+Yc next*6),(0,0),(u,0)]) (pl':=[⟨NW t_ l m i k,some 25⟩,⟨VU cI,none⟩,⟨VU dX,none⟩,⟨[],none⟩,⟨GB,some 46⟩]) (fun _ hp=>hp.unset 4 rfl (by kernel_rfl)) ?_)
 refine Dl 10 fun K hK=>?_
 refine MO 3 GB a7 ao fun ac b6 ce (a8:Kn _ [(a,0),(d,e+Yc first*6),(f,g+Yc next*6),(ac,0),(u,0)] ((tP 7 3 0)::(tP 8 4 0)::(NP dX cI first next)) _) (ap:Ai _ _ [(a,0),(d,e+Yc first*6),(f,g+Yc next*6),(ac,0),(u,0)] [⟨NW t_ l m i k,some 25⟩,⟨VU cI,none⟩,⟨VU dX,none⟩,⟨GB,some 46⟩,⟨GB,some 46⟩] [] _)=>hK _ _ (Ay.unset 3 rfl (by kernel_rfl) (Ay.forget [3] ap.plOk)) (BZ (e':=[(a,0),(d,e+Yc first*6),(f,g+Yc next*6),(ac,0),(u,0)]) (pl':=[⟨NW t_ l m i k,some 25⟩,⟨VU cI,none⟩,⟨VU dX,none⟩,⟨[],some 46⟩,⟨GB,some 46⟩]) (fun _ hp=>hp.unset 3 rfl (by kernel_rfl)) ?_)
 refine AK [10,11,9,8,7,6,5,4,3,2,1,0] (by kernel_rfl) (by rfl) (ax ac u _ _ ?_)
 exact XY _ ⟨_,rfl,a8.kp,ap,Ac.le_refl _⟩
abbrev VZ (f g)(l:Nat)(aA:Int)(m)(p:Nat)(q)(s:Nat)(u)(y:Nat)(aE:Int):=([(f,0),(g,l+Yc aA*1),(m,p+Yc aA*1),(q,s+Yc aA*1),(u,y+Yc aE*1)]:AJ)
abbrev XM (f g)(l:Nat)(aA:Int)(m)(p:Nat)(q)(s:Nat)(u)(y:Nat)(aE:Int)(aj)(eF:Int):=([(f,0),(g,l+Yc aA*1),(m,p+Yc aA*1),(q,s+Yc aA*1),(u,y+Yc aE*1),(aj,0+Yc eF*1)]:AJ)
abbrev EI (aE aA aF a)(aD:List Bool)(d aJ)(blocks:List (List Int))(aK):=([tI 8 aE,tI 7 aA,tI 6 aF,tS 5 a aD.length d,tP 2 0 0,tS 1 aJ blocks.length aK]:TM)
abbrev Kf (aJ)(blocks:List (List Int))(aK):=([tP 2 0 0,tS 1 aJ blocks.length aK]:TM)
theorem My (n:Nat) {h:Ac} {w:World} (hh:CK h w) (t_:An) {cN:Ye} (dL:rep h t_ cN) (blocks:List (List Int)) {aJ:Yd} {aK:Nat} (dF:At h aJ aK blocks) {r:Bool} (H:Eu n t_ blocks=some r) :
  Calls Tryz.prog 9 #[.agg cN.toArray,.slice aJ blocks.length aK] w (CP (fun h v=>v=.bool r) h w):=by
 obtain⟨_,_,rfl,rfl,⟨_,_,rfl,rfl,⟨_,_,rfl,⟨aa,ac,rfl,au⟩,⟨ab,ad,rfl,av⟩⟩⟩⟩:=dL
 refine enter 83 [.agg (NW t_ aa ac ab ad),.c (Yb aJ blocks.length aK)] Tryz.func9 rfl rfl rfl rfl fun t hk=>?_
 have hm:=Ai.begin h w hh
 unfold Eu at H
 refine XT (Aa (wl fun K hK=>?_))
 refine wb (.agg (NW t_ aa ac ab ad)) hk hm fun f gz iq (d8:Kn _ [(f,0)] [tP 2 0 0,tA 0 (NW t_ aa ac ab ad),tS 1 aJ blocks.length aK] _) cb=>hK _ _ ?_
 refine Rk 1 1 (Kf aJ blocks aK) d8 cb fun hi ed=>?_
 refine wf (XT (Aa (Rk 0 3 ((tI 12 ((t_.trips.length:Nat):Int))::(Kf aJ blocks aK)) ed cb fun ho eg=>?_)))
 obtain⟨cC,fY,H⟩:=Ao H
 obtain⟨fs,fz,de⟩:=Oe fY
 refine wl fun K hK=>?_
 refine GJ 4 1 1 [.bool false] (((t_.trips.length:Nat):Int)) eg cb rfl rfl (by decide) (by rfl) (by kernel_rfl) (by kernel_rfl) (by rfl) fs fz (by decide) fun ay gu g0 (cz:Kn _ [(f,0)] [(13,.one (.c (Yb ay ((((t_.trips.length:Nat):Int):Int).toNat) ((((t_.trips.length:Nat):Int):Int).toNat)))),(12,.one (.c (XR ((t_.trips.length:Nat):Int)))),(2,.one (.c (.ptr 0 0))),(1,.one (.c (Yb aJ blocks.length aK)))] _) (bf:Ai _ _ [(f,0)] [⟨[XR t_.places,XR t_.layover,Yb aa t_.empty.length ac,Yb ab t_.trips.length ad],some 25⟩] [⟨ay,(((t_.trips.length:Nat):Int):Int).toNat,(((t_.trips.length:Nat):Int):Int).toNat,4,1,List.flatten (List.replicate (((t_.trips.length:Nat):Int):Int).toNat ([.bool false]:Ye)),0⟩] _)=>?_
 have cr:Ae h cC (List.flatten (List.replicate (((t_.trips.length:Nat):Int):Int).toNat ([.bool false]:Ye))):=by rw [de]; exact Ae.replicate (α:=Bool) (x:=false) Ag _
 have c2:(((t_.trips.length:Nat):Int):Int).toNat=cC.length:=by rw [de]; simp
 rw [c2] at cz bf
 skip
 rw [c2] at cr
 refine hK _ _ ?_
 refine Rk 4 1 ((tS 5 ay cC.length cC.length)::(Kf aJ blocks aK)) cz bf fun h2 e2=>?_
 refine wf (XT (Aa (Rk 0 1 ((tI 6 0)::(tS 5 ay cC.length cC.length)::(Kf aJ blocks aK)) e2 bf fun h3 fa=>?_)))
 refine wf (XT (XT (Aa (Rk 0 1 ((tI 7 0)::(tI 6 0)::(tS 5 ay cC.length cC.length)::(Kf aJ blocks aK)) fa bf fun h8 fe=>?_))))
 refine wf ?_
 obtain⟨dh,co,H⟩:=Ao H
 refine Ar (fun a' w'=>∃ (aw:(List Bool)×Int)(cm:Yd)(cn:Nat)(cl:Ye)(ch:Array Value)(bq:Ac),a' = ⟨ch,[]⟩∧Kn 83 [(f,0)] [tI 6 aw.2,tP 2 0 0] ch∧Ai ⟨w,h,BF⟩ bq [(f,0)] [⟨NW t_ aa ac ab ad,some 25⟩] [⟨cm,aw.1.length,cn,4,1,cl,0⟩] w'∧Ac.le h bq∧Ae bq aw.1 cl∧dh=.go aw) ?_ ?_
 ·
  refine wp_block ?_
  refine Av (fun gl a' w'=>∃ (aB:List Bool)(aA:Int)(aC:Int)(an:Yd)(ao:Nat)(bk:Ye)(ci:Array Value)(a3:Ac),a' = ⟨ci,[]⟩∧Kn 83 [(f,0)] ((tI 7 aA)::(tI 6 aC)::(tS 5 an aB.length ao)::(Kf aJ blocks aK)) ci∧Ai ⟨w,h,BF⟩ a3 [(f,0)] [⟨NW t_ aa ac ab ad,some 25⟩] [⟨an,aB.length,ao,4,1,bk,0⟩] w'∧Ac.le h a3∧Ae a3 aB bk∧BO gl t_ blocks aB aA aC=some dh) n ?_ ?_
  ·
   exact XY cC ⟨0,0,ay,cC.length,List.flatten (List.replicate cC.length ([.bool false]:Ye)),_,_,rfl,fe.kp,bf,Ac.le_refl _,cr,co⟩
  rintro bw _ ip ⟨aB,aA,aC,an,ao,bk,ci,a3,rfl,ff,bu,bd,ct,af⟩
  clear co
  obtain _ | bw:=bw
  ·
   rw [BO] at af; cases af
  rw [BO] at af
  replace au:=au.mono bd
  replace av:=av.mono bd
  replace dF:=dF.mono bd
  refine XT (XT (Aa (Rk 0 4 ((tB 17 (decide (aA<((blocks.length:Nat):Int))))::(tI 7 aA)::(tI 6 aC)::(tS 5 an aB.length ao)::(Kf aJ blocks aK)) ff bu fun h9 b8=>?_)))
  refine wf (wC (decide (aA<((blocks.length:Nat):Int))) b8 (fun b4=>?_) (fun b4=>?_))
  ·
   rw [b4,XW] at af
   refine wp_skip (XT (wp_block (XT (XT (Aa (Rk 0 2 ((tI 21 aA)::(tS 20 aJ blocks.length aK)::(tI 7 aA)::(tI 6 aC)::(tS 5 an aB.length ao)::(Kf aJ blocks aK)) b8 bu fun ia fg=>?_))))))
   obtain⟨cB,gL,af⟩:=Ao af
   obtain⟨fv,f2,gk⟩:=Aj gL
   obtain⟨g,l,g9,dx,gb,d6⟩:=dF.get (by decide) gk
   obtain⟨az,a1,rfl,bv⟩:=gb
   have bi:=bu.addPlc (b:=g) (o:=l+Yc aA*1) (cs:=[Yb az cB.length a1]) (fun j c hj=>d6 j _ (Ak hj)) rfl (by kernel_rfl) (by kernel_rfl)
   refine A9 2 (aA) rfl rfl (rfl) rfl (by decide) fg (by rfl) (by rfl) (by rfl) dx (by rfl) fv f2 (by kernel_rfl) fun gy (fh:Kn _ [(f,0),(g,l+Yc aA*1)] ((tP 22 1 0)::(tI 21 aA)::(tS 20 aJ blocks.length aK)::(tI 7 aA)::(tI 6 aC)::(tS 5 an aB.length ao)::(Kf aJ blocks aK)) _)=>?_
   refine Rk 3 3 ((tB 25 (((cB.length:Nat):Int) == 0))::(tI 7 aA)::(tI 6 aC)::(tS 5 an aB.length ao)::(Kf aJ blocks aK)) fh bi fun ib b9=>?_
   refine wf (wC ((((cB.length:Nat):Int) == 0)) b9 (fun b5=>?_) (fun b5=>?_))
   ·
    rw [b5,XW] at af
    refine XT (Aa (Rk 0 1 [tB 4 false] b9 bi fun ic fi=>?_))
    refine wf (wp_ret ?_)
    obtain rfl:=XZ af
    obtain rfl:=XZ H
    exact rt (.one (.c (.bool false))) fi bi rfl
   rw [b5,XV] at af
   refine wp_skip (XT (Aa (Rk 0 1 ((tI 8 0)::(tI 7 aA)::(tI 6 aC)::(tS 5 an aB.length ao)::(Kf aJ blocks aK)) b9 bi fun ie fj=>?_)))
   refine wf ?_
   obtain⟨di,cp,af⟩:=Ao af
   refine Ar (fun a' w'=>∃ (ap:(List Bool)×Int)(a6:Yd)(a8:Nat)(bz:Ye)(cj:Array Value)(br:Ac),a' = ⟨cj,[]⟩∧Kn 83 [(f,0),(g,l+Yc aA*1)] ((tI 7 aA)::(tI 6 ap.2)::(tS 5 a6 ap.1.length a8)::(Kf aJ blocks aK)) cj∧Ai ⟨w,h,BF⟩ br [(f,0),(g,l+Yc aA*1)] [⟨NW t_ aa ac ab ad,some 25⟩,⟨[Yb az cB.length a1],none⟩] [⟨a6,ap.1.length,a8,4,1,bz,0⟩] w'∧Ac.le a3 br∧Ae br ap.1 bz∧di=.go ap) ?_ ?_
   ·
    refine wp_block ?_
    refine Av (fun gm a' w'=>∃ (aD:List Bool)(aE:Int)(aF:Int)(a:Yd)(d:Nat)(ah:Ye)(ck:Array Value)(a9:Ac),a' = ⟨ck,[]⟩∧Kn 83 [(f,0),(g,l+Yc aA*1)] (EI aE aA aF a aD d aJ blocks aK) ck∧Ai ⟨w,h,BF⟩ a9 [(f,0),(g,l+Yc aA*1)] [⟨NW t_ aa ac ab ad,some 25⟩,⟨[Yb az cB.length a1],none⟩] [⟨a,aD.length,d,4,1,ah,0⟩] w'∧Ac.le a3 a9∧Ae a9 aD ah∧Ck gm t_ blocks aA aD aE aF=some di) bw ?_ ?_
    ·
     exact XY aB ⟨0,aC,an,ao,bk,_,_,rfl,fj.kp,bi,Ac.le_refl _,ct,cp⟩
    rintro bj _ ii ⟨aD,aE,aF,a,d,ah,ck,a9,rfl,d9,c4,a4,al,z⟩
    clear cp
    obtain _ | bj:=bj
    ·
     rw [Ck] at z; cases z
    rw [Ck] at z
    replace au:=au.mono a4
    replace av:=av.mono a4
    replace dF:=dF.mono a4
    refine XT (XT (Aa (Rk 0 3 ((tI 28 aA)::(tS 27 aJ blocks.length aK)::(tI 26 aE)::(EI aE aA aF a aD d aJ blocks aK)) d9 c4 fun hg ea=>?_)))
    obtain⟨gN,iQ,z⟩:=Ao z
    obtain⟨fp,fw,gc⟩:=Aj iQ
    obtain⟨m,p,g2,ds,f4,dy⟩:=dF.get (by decide) gc
    obtain⟨bl,bo,rfl,dd⟩:=f4
    have bs:=c4.addPlc (b:=m) (o:=p+Yc aA*1) (cs:=[Yb bl gN.length bo]) (fun j c hj=>dy j _ (Ak hj)) rfl (by kernel_rfl) (by kernel_rfl)
    refine A9 3 (aA) rfl rfl (rfl) rfl (by decide) ea (by rfl) (by rfl) (by rfl) ds (by rfl) fp fw (by kernel_rfl) fun gn (eb:Kn _ [(f,0),(g,l+Yc aA*1),(m,p+Yc aA*1)] ((tP 29 2 0)::(tI 28 aA)::(tS 27 aJ blocks.length aK)::(tI 26 aE)::(EI aE aA aF a aD d aJ blocks aK)) _)=>?_
    refine Rk 4 3 ((tB 32 (decide (aE<((gN.length:Nat):Int))))::(EI aE aA aF a aD d aJ blocks aK)) eb bs fun hl b6=>?_
    refine wf (wC (decide (aE<((gN.length:Nat):Int))) b6 (fun b2=>?_) (fun b2=>?_))
    ·
     rw [b2,XW] at z
     refine wp_skip (XT (wp_block (XT (Aa (Rk 0 2 ((tI 36 aA)::(tS 35 aJ blocks.length aK)::(EI aE aA aF a aD d aJ blocks aK)) b6 bs fun hn ec=>?_)))))
     obtain⟨cK,iB,z⟩:=Ao z
     obtain⟨fq,fx,gd⟩:=Aj iB
     obtain⟨q,s,g3,dt,f5,dz⟩:=dF.get (by decide) gd
     obtain⟨ax,a0,rfl,cd⟩:=f5
     have c5:=bs.addPlc (b:=q) (o:=s+Yc aA*1) (cs:=[Yb ax cK.length a0]) (fun j c hj=>dz j _ (Ak hj)) rfl (by kernel_rfl) (by kernel_rfl)
     refine A9 2 (aA) rfl rfl (rfl) rfl (by decide) ec (by rfl) (by rfl) (by rfl) dt (by rfl) fq fx (by kernel_rfl) fun gp (ee:Kn _ [(f,0),(g,l+Yc aA*1),(m,p+Yc aA*1),(q,s+Yc aA*1)] ((tP 37 3 0)::(tI 36 aA)::(tS 35 aJ blocks.length aK)::(EI aE aA aF a aD d aJ blocks aK)) _)=>?_
     refine Rk 3 2 ((tI 39 aE)::(tS 38 ax cK.length a0)::(EI aE aA aF a aD d aJ blocks aK)) ee c5 fun hp ef=>?_
     obtain⟨eF,ex40,z⟩:=Ao z
     obtain⟨fr,fy,gf⟩:=Aj ex40
     obtain⟨u,y,g4,du,f6,d0⟩:=cd.get (by decide) gf
     obtain rfl:=f6
     have a5:=c5.addPlc (b:=u) (o:=y+Yc aE*1) (cs:=[XR eF]) (fun j c hj=>d0 j _ (Ak hj)) rfl (by kernel_rfl) (by kernel_rfl)
     refine A9 5 (aE) rfl rfl (rfl) rfl (by decide) ef (by rfl) (by rfl) (by rfl) du (by rfl) fr fy (by kernel_rfl) fun gq (eh:Kn _ (VZ f g l aA m p q s u y aE) ((tP 40 4 0)::(tI 39 aE)::(tS 38 ax cK.length a0)::(EI aE aA aF a aD d aJ blocks aK)) _)=>?_
     refine Rk 6 2 ((tI 9 eF)::(EI aE aA aF a aD d aJ blocks aK)) eh a5 fun hq ei=>?_
     refine wf (XT (XT ?_))
     obtain⟨dg,ae,z⟩:=Ao z
     refine Ar (fun a' w'=>∃ (cf:Array Value)(a2:Ac),a' = ⟨cf,[]⟩∧Kn 83 (VZ f g l aA m p q s u y aE) [tI 9 eF,tI 8 aE,tI 7 aA,tI 6 aF,tS 5 a aD.length d,tP 2 0 0,tS 1 aJ blocks.length aK,tB 72 dg] cf∧Ai ⟨w,h,BF⟩ a2 (VZ f g l aA m p q s u y aE) [⟨NW t_ aa ac ab ad,some 25⟩,⟨[Yb az cB.length a1],none⟩,⟨[Yb bl gN.length bo],none⟩,⟨[Yb ax cK.length a0],none⟩,⟨[XR eF],none⟩] [⟨a,aD.length,d,4,1,ah,0⟩] w'∧Ac.le a9 a2) ?_ ?_
     ·
      refine Au (by kernel_rfl) ?_
      replace a5:=a5.drew
      refine Ax [] (VZ f g l aA m p q s u y aE) [⟨NW t_ aa ac ab ad,some 25⟩,⟨[Yb az cB.length a1],none⟩,⟨[Yb bl gN.length bo],none⟩,⟨[Yb ax cK.length a0],none⟩,⟨[XR eF],none⟩] ?_
      refine Dr [0,1,2,3,4] (dn 4) ((tI 46 (IntKind.i64.wrap (((t_.trips.length:Nat):Int)-1)))::(tI 42 eF)::(tI 9 eF)::(EI aE aA aF a aD d aJ blocks aK)) ei a5 fun hr ej=>?_
      obtain⟨iU,ex47,ae⟩:=Ao ae
      refine Dl 5 fun K hK=>?_
      refine wc [.c (XR eF),.c (XR 0),.c (XR (IntKind.i64.wrap (((t_.trips.length:Nat):Int)-1)))] ej a5 (DJ bj a5.has eF 0 (IntKind.i64.wrap (((t_.trips.length:Nat):Int)-1)) ex47) fun ig dr ij dp am ar=>?_
      replace au:=au.mono am
      replace av:=av.mono am
      replace dF:=dF.mono am
      replace al:=al.mono am
      obtain rfl:=dp
      refine⟨.one (.c (.bool iU)),rfl,fun gr (ek:Kn _ (VZ f g l aA m p q s u y aE) ((tB 47 iU)::(tI 46 (IntKind.i64.wrap (((t_.trips.length:Nat):Int)-1)))::(tI 42 eF)::(tI 9 eF)::(EI aE aA aF a aD d aJ blocks aK)) _)=>hK _ _ ar.plOk ?_⟩
      refine Dr [6,7] (dn 7) ((tB 49 (!iU))::(tI 9 eF)::(EI aE aA aF a aD d aJ blocks aK)) ek ar fun dj cu=>?_
      rcases Y2 ((!iU)) with ba | ba
      ·
       rw [ba,XW] at ae
       have el:Kn _ _ ((tB 49 true)::(tI 9 eF)::(EI aE aA aF a aD d aJ blocks aK)) _:=(cu.setB 49 true (by rfl) ba).kp
       refine Dr [8,9,10,11,12,13,14,15,16,17,18,19,20,21,22,23,24,25,26,27,28,29,30] (dn 30) ((tB 72 true)::(tI 9 eF)::(EI aE aA aF a aD d aJ blocks aK)) el ar fun hs em=>?_
       refine AL (by kernel_rfl) ?_
       obtain rfl:=XZ ae
       exact XY _ ⟨_,rfl,em.kp,ar,am⟩
      rw [ba,XV] at ae
      have en:Kn _ _ ((tB 49 false)::(tI 9 eF)::(EI aE aA aF a aD d aJ blocks aK)) _:=(cu.setB 49 false (by rfl) ba).kp
      refine Dr [8,9] (dn 9) ((tI 51 eF)::(tS 50 a aD.length d)::(tB 49 false)::(tI 9 eF)::(EI aE aA aF a aD d aJ blocks aK)) en ar fun ht cv=>?_
      obtain⟨cO,jO,ae⟩:=Ao ae
      obtain⟨c9,db,gg⟩:=Aj jO
      have fk:=AG c9 db
      obtain⟨g5,f7,d1⟩:=AM (sz:=1) rfl al gg
      obtain rfl:=f7
      obtain⟨aj,ai⟩:=AP ar (i:=0) rfl (b0:=0+Yc eF*1) (Y5 (Y6 (by decide)) (A3 (sz:=1) rfl al fk))
      have ag:=ar.addPlc (b:=aj) (o:=0+Yc eF*1) (cs:=[]) (fun j c hj=>by simp at hj) rfl (by kernel_rfl) (by kernel_rfl)
      have ak:∀ (e:AJ) k c,([.bool cO]:List SC)[k]? = some c→(ah)[0+Yc eF*1+k]? = some (c.den e):=fun e k c hk=>d1 k _ (Ak hk)
      refine A5 10 (eF) [.bool cO] (fun _ _ _ _ _ h=>h) rfl rfl (Al cv (by kernel_rfl)) rfl (by decide) (by kernel_rfl) (by kernel_rfl) cv ar.plOk (by rfl) (by rfl) (by rfl) ai (by rfl) c9 db (by kernel_rfl) fun gs (eo:Kn _ (XM f g l aA m p q s u y aE aj eF) ((tP 52 5 0)::(tI 51 eF)::(tS 50 a aD.length d)::(tB 49 false)::(tI 9 eF)::(EI aE aA aF a aD d aJ blocks aK)) _)=>?_
      refine Dj [11,12,13] [13,12,11,10,9,8,7,6,5,4,3,2,1,0] [55,9,8,7,6,5,2,1] ((tB 55 cO)::(tI 9 eF)::(EI aE aA aF a aD d aJ blocks aK)) (fun _ _ _ _ _ h=>h) eo (Ay.peek ag.plOk ag 0 5 rfl rfl ai [.bool cO] (ak _)) (by kernel_rfl) (by rfl) (by kernel_rfl) fun dk cw=>?_
      rcases Y2 (cO) with bb | bb
      ·
       rw [Ba bb] at ae
       have ep:Kn _ _ ((tB 55 true)::(tI 9 eF)::(EI aE aA aF a aD d aJ blocks aK)) _:=(cw.setB 55 true (by rfl) bb).kp
       refine Dj [14,15,16,17,18,19,20,21,22,23,24,25,26,27,28,29,30] [30,29,28,27,26,25,24,23,22,21,20,19,18,17,16,15,14,13,12,11,10,9,8,7,6,5,4,3,2,1,0] [72,9,8,7,6,5,2,1] ((tB 72 true)::(tI 9 eF)::(EI aE aA aF a aD d aJ blocks aK)) (fun _ _ _ _ _ h=>h) ep (Ay.peek ag.plOk ag 0 5 rfl rfl ai [.bool cO] (ak _)) (by kernel_rfl) (by rfl) (by kernel_rfl) fun hu er=>?_
       refine AL (by kernel_rfl) ?_
       obtain rfl:=XZ ae
       exact XY _ ⟨_,rfl,(er.keep [9,8,7,6,5,2,1,72] (by rfl)).cut 5 (by kernel_rfl),ag.cutPl 5 (by kernel_rfl),am⟩
      rw [Bb bb] at ae
      have es:Kn _ _ ((tB 55 false)::(tI 9 eF)::(EI aE aA aF a aD d aJ blocks aK)) _:=(cw.setB 55 false (by rfl) bb).kp
      refine Dj [14,15,16] [16,15,14,13,12,11,10,9,8,7,6,5,4,3,2,1,0] [58,55,9,8,7,6,5,2,1] ((tB 58 (decide (aE>0)))::(tB 55 false)::(tI 9 eF)::(EI aE aA aF a aD d aJ blocks aK)) (fun _ _ _ _ _ h=>h) es (Ay.peek ag.plOk ag 0 5 rfl rfl ai [.bool cO] (ak _)) (by kernel_rfl) (by rfl) (by kernel_rfl) fun dl cx=>?_
      rcases Y2 (decide (aE>0)) with bc | bc
      ·
       rw [bc,XW] at ae
       have et:Kn _ _ ((tB 58 true)::(tB 55 false)::(tI 9 eF)::(EI aE aA aF a aD d aJ blocks aK)) _:=(cx.setB 58 true (by rfl) bc).kp
       refine Dj [17,18,19] [19,18,17,16,15,14,13,12,11,10,9,8,7,6,5,4,3,2,1,0] [61,60,59,58,55,9,8,7,6,5,2,1] ((tI 61 aA)::(tS 60 aJ blocks.length aK)::(tA 59 (NW t_ aa ac ab ad))::(tB 58 true)::(tB 55 false)::(tI 9 eF)::(EI aE aA aF a aD d aJ blocks aK)) (fun _ _ _ _ _ h=>h) et (Ay.peek ag.plOk ag 0 5 rfl rfl ai [.bool cO] (ak _)) (by kernel_rfl) (by rfl) (by kernel_rfl) fun hv cy=>?_
       obtain⟨jR,ex62,ae⟩:=Ao ae
       obtain⟨ft,f0,gh⟩:=Aj ex62
       obtain⟨bn,bx,g6,dv,f8,d2⟩:=dF.get (by decide) gh
       obtain⟨bm,bp,rfl,f3⟩:=f8
       have be:=ag.addPlc (b:=bn) (o:=bx+Yc aA*1) (cs:=[Yb bm jR.length bp]) (fun j c hj=>d2 j _ (Ak hj)) rfl (by kernel_rfl) (by kernel_rfl)
       refine A5 20 (aA) [Yb bm jR.length bp] (fun _ _ _ _ _ h=>h) rfl rfl (Al cy (by kernel_rfl)) rfl (by decide) (by kernel_rfl) (by kernel_rfl) cy (Ay.peek ag.plOk ag 0 5 rfl rfl ai [.bool cO] (ak _)) (by rfl) (by rfl) (by rfl) dv (by rfl) ft f0 (by kernel_rfl) fun gv (eu:Kn _ [(f,0),(g,l+Yc aA*1),(m,p+Yc aA*1),(q,s+Yc aA*1),(u,y+Yc aE*1),(aj,0+Yc eF*1),(bn,bx+Yc aA*1)] ((tP 62 6 0)::(tI 61 aA)::(tS 60 aJ blocks.length aK)::(tA 59 (NW t_ aa ac ab ad))::(tB 58 true)::(tB 55 false)::(tI 9 eF)::(EI aE aA aF a aD d aJ blocks aK)) _)=>?_
       refine Dj [21,22,23] [23,22,21,20,19,18,17,16,15,14,13,12,11,10,9,8,7,6,5,4,3,2,1,0] [65,63,59,58,55,9,8,7,6,5,2,1] ((tI 65 (IntKind.i64.wrap (aE-1)))::(tS 63 bm jR.length bp)::(tA 59 (NW t_ aa ac ab ad))::(tB 58 true)::(tB 55 false)::(tI 9 eF)::(EI aE aA aF a aD d aJ blocks aK)) (fun _ _ _ _ _ h=>h) eu (Ay.peek be.plOk be 0 5 rfl rfl ai [.bool cO] (ak _)) (by kernel_rfl) (by rfl) (by kernel_rfl) fun hw c0=>?_
       obtain⟨jS,ex66,ae⟩:=Ao ae
       obtain⟨fu,f1,gi⟩:=Aj ex66
       obtain⟨b1,ce,g7,dw,f9,d3⟩:=f3.get (by decide) gi
       obtain rfl:=f9
       have bt:=be.addPlc (b:=b1) (o:=ce+(IntKind.i64.wrap (aE-1):Int).toNat*1) (cs:=[XR jS]) (fun j c hj=>d3 j _ (Ak hj)) rfl (by kernel_rfl) (by kernel_rfl)
       refine A5 24 (IntKind.i64.wrap (aE-1)) [XR jS] (fun _ _ _ _ _ h=>h) rfl rfl (Al c0 (by kernel_rfl)) rfl (by decide) (by kernel_rfl) (by kernel_rfl) c0 (Ay.peek be.plOk be 0 5 rfl rfl ai [.bool cO] (ak _)) (by rfl) (by rfl) (by rfl) dw (by rfl) fu f1 (by kernel_rfl) fun gw (ev:Kn _ [(f,0),(g,l+Yc aA*1),(m,p+Yc aA*1),(q,s+Yc aA*1),(u,y+Yc aE*1),(aj,0+Yc eF*1),(bn,bx+Yc aA*1),(b1,ce+(IntKind.i64.wrap (aE-1):Int).toNat*1)] ((tP 66 7 0)::(tI 65 (IntKind.i64.wrap (aE-1)))::(tS 63 bm jR.length bp)::(tA 59 (NW t_ aa ac ab ad))::(tB 58 true)::(tB 55 false)::(tI 9 eF)::(EI aE aA aF a aD d aJ blocks aK)) _)=>?_
       refine Dj [25,26] [26,25,24,23,22,21,20,19,18,17,16,15,14,13,12,11,10,9,8,7,6,5,4,3,2,1,0] [68,67,59,58,55,9,8,7,6,5,2,1] ((tI 68 eF)::(tI 67 jS)::(tA 59 (NW t_ aa ac ab ad))::(tB 58 true)::(tB 55 false)::(tI 9 eF)::(EI aE aA aF a aD d aJ blocks aK)) (fun _ _ _ _ _ h=>h) ev (Ay.peek bt.plOk bt 0 5 rfl rfl ai [.bool cO] (ak _)) (by kernel_rfl) (by rfl) (by kernel_rfl) fun hx c1=>?_
       obtain⟨eZ,jK,ae⟩:=Ao ae
       refine QQ 27 rfl (by kernel_rfl) (by decide) (Al c1 (by kernel_rfl)) fun K hK=>?_
       refine wc [.agg (NW t_ aa ac ab ad),.c (XR jS),.c (XR eF)] c1 bt (SJ bj bt.has t_ ((Ab Ad (Ab Ad (Ab (Af au) (Af av)))):rep dr t_ _) jS eF jK) fun ih ha ik dq fl bg=>?_
       obtain rfl:=dq
       refine⟨.one (.c (.bool eZ)),rfl,fun gx (ew:Kn _ [(f,0),(g,l+Yc aA*1),(m,p+Yc aA*1),(q,s+Yc aA*1),(u,y+Yc aE*1),(aj,0+Yc eF*1),(bn,bx+Yc aA*1),(b1,ce+(IntKind.i64.wrap (aE-1):Int).toNat*1)] ((tB 69 eZ)::(tI 68 eF)::(tI 67 jS)::(tA 59 (NW t_ aa ac ab ad))::(tB 58 true)::(tB 55 false)::(tI 9 eF)::(EI aE aA aF a aD d aJ blocks aK)) _)=>hK _ _ (Ay.peek bg.plOk bg 0 5 rfl rfl ai [.bool cO] (ak _)) ?_⟩
       refine Dj [28,29,30] [30,29,28,27,26,25,24,23,22,21,20,19,18,17,16,15,14,13,12,11,10,9,8,7,6,5,4,3,2,1,0] [72,9,8,7,6,5,2,1] ((tB 72 (!eZ))::(tI 9 eF)::(EI aE aA aF a aD d aJ blocks aK)) (fun _ _ _ _ _ h=>h) ew (Ay.peek bg.plOk bg 0 5 rfl rfl ai [.bool cO] (ak _)) (by kernel_rfl) (by rfl) (by kernel_rfl) fun hy ex=>?_
       refine AL (by kernel_rfl) ?_
       obtain rfl:=XZ ae
       exact XY _ ⟨_,rfl,(ex.keep [9,8,7,6,5,2,1,72] (by rfl)).cut 5 (by kernel_rfl),bg.cutPl 5 (by kernel_rfl),XU am fl⟩
      rw [bc,XV] at ae
      have ey:Kn _ _ ((tB 58 false)::(tB 55 false)::(tI 9 eF)::(EI aE aA aF a aD d aJ blocks aK)) _:=(cx.setB 58 false (by rfl) bc).kp
      refine Dj [17,18,19,20,21,22,23,24,25,26,27,28,29,30] [30,29,28,27,26,25,24,23,22,21,20,19,18,17,16,15,14,13,12,11,10,9,8,7,6,5,4,3,2,1,0] [72,9,8,7,6,5,2,1] ((tB 72 false)::(tI 9 eF)::(EI aE aA aF a aD d aJ blocks aK)) (fun _ _ _ _ _ h=>h) ey (Ay.peek ag.plOk ag 0 5 rfl rfl ai [.bool cO] (ak _)) (by kernel_rfl) (by rfl) (by kernel_rfl) fun hz ez=>?_
      refine AL (by kernel_rfl) ?_
      obtain rfl:=XZ ae
      exact XY _ ⟨_,rfl,(ez.keep [9,8,7,6,5,2,1,72] (by rfl)).cut 5 (by kernel_rfl),ag.cutPl 5 (by kernel_rfl),am⟩
     rintro _ il ⟨cf,a2,rfl,b7,bh,c3⟩
     replace al:=al.mono c3
     refine wC (dg) b7 (fun b3=>?_) (fun b3=>?_)
     ·
      rw [Ba b3] at z
      refine XT (Aa (Rk 0 1 [tB 4 false] b7 bh fun h0 e0=>?_))
      refine wf (wp_ret ?_)
      obtain rfl:=XZ z
      obtain rfl:=XZ af
      obtain rfl:=XZ H
      exact rt (.one (.c (.bool false))) e0 bh rfl
     rw [Bb b3] at z
     refine wp_skip (XT (Aa (Rk 0 2 ((tI 74 eF)::(tS 73 a aD.length d)::(EI aE aA aF a aD d aJ blocks aK)) b7 bh fun h1 e1=>?_)))
     obtain⟨iS,ex75,z⟩:=Ao z
     obtain⟨da,dc,gj⟩:=Aj ex75
     have ca:=AG da dc
     obtain⟨g8,ga,d4⟩:=AM (sz:=1) rfl al gj
     obtain rfl:=ga
     obtain⟨a7,cq⟩:=AP bh (i:=0) rfl (b0:=0+Yc eF*1) (Y5 (Y6 (by decide)) (A3 (sz:=1) rfl al ca))
     have fn:=bh.addPlc (b:=a7) (o:=0+Yc eF*1) (cs:=[]) (fun j c hj=>by simp at hj) rfl (by kernel_rfl) (by kernel_rfl)
     have hb:∀ (e:AJ) k c,([.bool iS]:List SC)[k]? = some c→(ah)[0+Yc eF*1+k]? = some (c.den e):=fun e k c hk=>d4 k _ (Ak hk)
     refine A9 2 (eF) rfl rfl (rfl) rfl (by decide) e1 (by rfl) (by rfl) (by rfl) cq (by rfl) da dc (by kernel_rfl) fun cg (e3:Kn _ [(f,0),(g,l+Yc aA*1),(m,p+Yc aA*1),(q,s+Yc aA*1),(u,y+Yc aE*1),(a7,0+Yc eF*1)] ((tP 75 5 0)::(tI 74 eF)::(tS 73 a aD.length d)::(EI aE aA aF a aD d aJ blocks aK)) _)=>?_
     obtain⟨aq,dm,z⟩:=Ao z
     obtain⟨he,hf,df⟩:=Cl dm
     refine wl fun K hK=>?_
     refine B4 0 5 0 (0+Yc eF*1) (.c (.bool true)) e3 fn rfl rfl (by rfl) (by rfl) rfl rfl cq rfl (by kernel_rfl) (A3 (sz:=1) rfl al ca) fun g1 e4 fo=>?_
     have d5:Ae a2 aq (ah.take (0+Yc eF*1+0)++([.bool true]:Ye)++ah.drop (0+Yc eF*1+0+1)):=by rw [df]; exact Df (sz:=1) rfl al ca (Ag:rep a2 (true:Bool) _)
     have c8:aD.length=aq.length:=by rw [df]; simp
     have e5:Kn 83 [(f,0),(g,l+Yc aA*1),(m,p+Yc aA*1),(q,s+Yc aA*1),(u,y+Yc aE*1),(a7,0+Yc eF*1)] [(75,.one (.c (.ptr 5 0))),(74,.one (.c (XR eF))),(73,.one (.c (Yb a aq.length d))),(8,.one (.c (XR aE))),(7,.one (.c (XR aA))),(6,.one (.c (XR aF))),(5,.one (.c (Yb a aq.length d))),(2,.one (.c (.ptr 0 0))),(1,.one (.c (Yb aJ blocks.length aK)))] cg:=by rw [← c8]; exact e4
     have cc:Ai ⟨w,h,BF⟩ a2 [(f,0),(g,l+Yc aA*1),(m,p+Yc aA*1),(q,s+Yc aA*1),(u,y+Yc aE*1),(a7,0+Yc eF*1)] [⟨[XR t_.places,XR t_.layover,Yb aa t_.empty.length ac,Yb ab t_.trips.length ad],some 25⟩,⟨[Yb az cB.length a1],none⟩,⟨[Yb bl gN.length bo],none⟩,⟨[Yb ax cK.length a0],none⟩,⟨[XR eF],none⟩,⟨[],none⟩] [⟨a,aq.length,d,4,1,ah.take (0+Yc eF*1+0)++([.bool true]:Ye)++ah.drop (0+Yc eF*1+0+1),0⟩] g1:=by rw [← c8]; exact fo
     refine hK _ _ ?_
     have e6:Kn _ _ ((tI 8 aE)::(tI 7 aA)::(tI 6 aF)::(tS 5 a aq.length d)::(Kf aJ blocks aK)) _:=e5.kp
     refine wf (Aa (Rk 0 3 ((tI 6 (IntKind.i64.wrap (aF+1)))::(tI 8 aE)::(tI 7 aA)::(tS 5 a aq.length d)::(Kf aJ blocks aK)) e6 cc fun h4 e7=>?_))
     refine wf (Aa (Rk 0 3 ((tI 8 (IntKind.i64.wrap (aE+1)))::(tI 6 (IntKind.i64.wrap (aF+1)))::(tI 7 aA)::(tS 5 a aq.length d)::(Kf aJ blocks aK)) e7 cc fun h5 e8=>?_))
     refine wf ?_
     exact XY bj ⟨Y4 _,XY aq ⟨IntKind.i64.wrap (aE+1),IntKind.i64.wrap (aF+1),a,d,ah.take (0+Yc eF*1+0)++([.bool true]:Ye)++ah.drop (0+Yc eF*1+0+1),_,_,rfl,(e8.keep [8,7,6,5,2,1] (by rfl)).cut 2 (by kernel_rfl),cc.cutPl 2 (by kernel_rfl),XU a4 c3,d5,z⟩⟩
    rw [b2,XV] at z
    refine wp_exit ?_
    obtain rfl:=XZ z
    exact XY (aD,aF) ⟨a,d,ah,_,_,rfl,(b6.keep [7,6,5,2,1] (by rfl)).cut 2 (by kernel_rfl),bs.cutPl 2 (by kernel_rfl),a4,al,rfl⟩
   rintro _ im ⟨ap,a6,a8,bz,cj,br,rfl,e9,c6,fm,d7,rfl⟩
   rw [Ex.bind_go] at af
   refine Aa (Rk 0 3 ((tI 7 (IntKind.i64.wrap (aA+1)))::(tI 6 ap.2)::(tS 5 a6 ap.1.length a8)::(Kf aJ blocks aK)) e9 c6 fun h6 fb=>?_)
   refine wf ?_
   exact XY bw ⟨Y4 _,XY ap.1 ⟨IntKind.i64.wrap (aA+1),ap.2,a6,a8,bz,_,_,rfl,(fb.keep [7,6,5,2,1] (by rfl)).cut 1 (by kernel_rfl),c6.cutPl 1 (by kernel_rfl),XU bd fm,d7,af⟩⟩
  rw [b4,XV] at af
  refine wp_exit ?_
  obtain rfl:=XZ af
  exact XY (aB,aC) ⟨an,ao,bk,_,_,rfl,b8.kp,bu,bd,ct,rfl⟩
 rintro _ io ⟨aw,cm,cn,cl,ch,bq,rfl,fc,c7,hd,hc,rfl⟩
 rw [Ex.bind_go] at H
 refine XT (Aa (Rk 0 6 [tB 4 (aw.2 == ((t_.trips.length:Nat):Int))] fc c7 fun h7 fd=>?_))
 refine wf (wp_ret ?_)
 obtain rfl:=XZ H
 exact rt (.one (.c (.bool (aw.2 == ((t_.trips.length:Nat):Int))))) fd c7 rfl
abbrev H5 (aO)(room:List Int)(aP ak)(ai:List Cn)(al):=([Yb aO room.length aP,Yb ak ai.length al,XR 0]:List SC)
abbrev Uo (dW:AH)(eK:AH):=([XR (IntKind.i64.wrap (dW.start+dW.least)),XR (IntKind.i64.wrap (dW.start+dW.most)),XR eK.start]:List SC)
abbrev Wa (a d e g)(l:Nat)(aA:Int)(m)(p:Nat)(q)(s:Nat)(cJ:Int)(u)(x:Nat)(y)(z:Nat)(aa)(ab:Nat)(eJ:List Int)(ac)(ad:Nat)(dI:Int)(aw):=([(a,0),(d,0),(e,0),(g,l+Yc aA*1),(m,p+Yc 0*1),(q,s+Yc cJ*6),(u,x+Yc aA*1),(y,z+Yc aA*1),(aa,ab+(IntKind.i64.wrap (((eJ.length:Nat):Int)-1):Int).toNat*1),(ac,ad+Yc dI*6),(aw,0),(0,0)]:AJ)
abbrev T7 (a d e g)(l:Nat)(aA:Int)(m)(p:Nat)(q)(s:Nat)(cJ:Int)(u)(x:Nat)(y)(z:Nat)(aa)(ab:Nat)(eJ:List Int)(ac)(ad:Nat)(dI:Int)(ax):=([(a,0),(d,0),(e,0),(g,l+Yc aA*1),(m,p+Yc 0*1),(q,s+Yc cJ*6),(u,x+Yc aA*1),(y,z+Yc aA*1),(aa,ab+(IntKind.i64.wrap (((eJ.length:Nat):Int)-1):Int).toNat*1),(ac,ad+Yc dI*6),(0,0),(ax,0)]:AJ)
abbrev Nb (a d e g)(l:Nat)(aA:Int)(m)(p:Nat)(q)(s:Nat)(cJ:Int)(u)(x:Nat)(y)(z:Nat)(aa)(ab:Nat)(eJ:List Int)(ac)(ad:Nat)(dI:Int)(au av):=([(a,0),(d,0),(e,0),(g,l+Yc aA*1),(m,p+Yc 0*1),(q,s+Yc cJ*6),(u,x+Yc aA*1),(y,z+Yc aA*1),(aa,ab+(IntKind.i64.wrap (((eJ.length:Nat):Int)-1):Int).toNat*1),(ac,ad+Yc dI*6),(au,0),(av,0)]:AJ)
abbrev EP (aA aJ)(blocks:List (List Int))(aK):=([tI 9 aA,tP 8 2 0,tP 6 1 0,tP 3 0 0,tS 1 aJ blocks.length aK]:TM)
abbrev JH (f)(t_:An)(k)(eK:AH)(aA aJ)(blocks:List (List Int))(aK):=((tS 31 f t_.trips.length k)::(tA 29 (VU eK))::(EP aA aJ blocks aK):TM)
abbrev JI (dW:AH)(eK:AH)(aA aJ)(blocks:List (List Int))(aK):=((tA 45 (VU dW))::(tA 29 (VU eK))::(EP aA aJ blocks aK):TM)
theorem NQ (n:Nat) {h:Ac} {w:World} (hh:CK h w) (t_:An) {cN:Ye} (dL:rep h t_ cN) (blocks:List (List Int)) {aJ:Yd} {aK:Nat} (dF:At h aJ aK blocks) (room:List Int) {aO:Yd} {aP:Nat} (eE:At h aO aP room) {r:Am×Bool} (H:LH n t_ blocks room=some r) :
  Calls Tryz.prog 10 #[.agg cN.toArray,.slice aJ blocks.length aK,.slice aO room.length aP] w (CP (fun h v=>∃ v0 v1,v=.tuple #[v0,v1]∧(∃ cs,v0=.agg cs.toArray∧rep h r.1 cs)∧(v1=.bool r.2)) h w):=by
 obtain⟨_,_,rfl,rfl,⟨_,_,rfl,rfl,⟨_,_,rfl,⟨ag,ah,rfl,cg⟩,⟨f,k,rfl,bd⟩⟩⟩⟩:=dL
 refine enter 68 [.agg (NW t_ ag ah f k),.c (Yb aJ blocks.length aK),.c (Yb aO room.length aP)] Tryz.func10 rfl rfl rfl rfl fun t hk=>?_
 have hm:=Ai.begin h w hh
 unfold LH at H
 refine XT (Aa (wl fun K hK=>?_))
 refine wb (.agg (NW t_ ag ah f k)) hk hm fun a f1 hb (c5:Kn _ [(a,0)] [tP 3 0 0,tA 0 (NW t_ ag ah f k),tS 1 aJ blocks.length aK,tS 2 aO room.length aP] _) ej=>hK _ _ ?_
 refine wl fun K hK=>?_
 refine wa JC c5 ej fun d fn g0 (dc:Kn _ [(a,0),(d,0)] [tP 6 1 0,tP 3 0 0,tA 0 (NW t_ ag ah f k),tS 1 aJ blocks.length aK,tS 2 aO room.length aP] _) bo=>hK _ _ ?_
 refine Rk 2 1 [tP 6 1 0,tP 3 0 0,tS 1 aJ blocks.length aK,tS 2 aO room.length aP] dc bo fun gm dj=>?_
 refine wf (XT (Aa (Rk 0 2 [tA 13 [Yb aO room.length aP,Yb none 0 0,XR 0],tP 6 1 0,tP 3 0 0,tS 1 aJ blocks.length aK] dj bo fun go dr=>?_)))
 refine wl fun K hK=>?_
 refine wa JC dr bo fun e cj g7 (d2:Kn _ [(a,0),(d,0),(e,0)] [tP 8 2 0,tA 13 [Yb aO room.length aP,Yb none 0 0,XR 0],tP 6 1 0,tP 3 0 0,tS 1 aJ blocks.length aK] _) em=>hK _ _ ?_
 refine wl fun K hK=>?_
 refine DT 2 0 (.agg [Yb aO room.length aP,Yb none 0 0,XR 0]) [Yb aO room.length aP,Yb none 0 0,XR 0] d2 em fun f8 d8 cf=>hK _ _ ?_
 have d9:Kn _ _ [tP 8 2 0,tP 6 1 0,tP 3 0 0,tS 1 aJ blocks.length aK] _:=d8.kp
 refine wf (XT (XT (Aa (Rk 0 1 [tI 9 0,tP 8 2 0,tP 6 1 0,tP 3 0 0,tS 1 aJ blocks.length aK] d9 cf fun gu ea=>?_))))
 refine wf ?_
 have en:Ai _ _ [(a,0),(d,0),(e,0)] [⟨NW t_ ag ah f k,some 25⟩,⟨JC,some 41⟩,⟨[.slice aO room.length aP,.slice none 0 0,.int .i64 0],some 41⟩] [⟨none,0,0,74,3,[],0⟩] _:=cf.nilRow 74 3
 have c0:Ae h ([]:List Cn) []:=Ae.nil
 obtain⟨ai,bx,H⟩:=Ao H
 refine Ar (fun a' w'=>∃ (ak:Yd)(al:Nat)(a8:Ye)(bu:Array Value)(a9:Ac),a' = ⟨bu,[]⟩∧Kn 68 [(a,0),(d,0),(e,0)] [tP 8 2 0,tP 6 1 0] bu∧Ai ⟨w,h,BF⟩ a9 [(a,0),(d,0),(e,0)] [⟨NW t_ ag ah f k,some 25⟩,⟨JC,some 41⟩,⟨H5 aO room aP ak ai al,some 41⟩] [⟨ak,ai.length,al,74,3,a8,0⟩] w'∧Ac.le h a9∧Ae a9 ai a8) ?_ ?_
 ·
  refine wp_block ?_
  refine Av (fun fk a' w'=>∃ (aB:List Cn)(aA:Int)(ae:Yd)(af:Nat)(ay:Ye)(bv:Array Value)(az:Ac),a' = ⟨bv,[]⟩∧Kn 68 [(a,0),(d,0),(e,0)] (EP aA aJ blocks aK) bv∧Ai ⟨w,h,BF⟩ az [(a,0),(d,0),(e,0)] [⟨NW t_ ag ah f k,some 25⟩,⟨JC,some 41⟩,⟨H5 aO room aP ae aB af,some 41⟩] [⟨ae,aB.length,af,74,3,ay,0⟩] w'∧Ac.le h az∧Ae az aB ay∧Ev fk t_ blocks aB aA=some ai) n ?_ ?_
  ·
   exact XY ([]:List Cn) ⟨0,none,0,[],_,_,rfl,ea.kp,en,Ac.le_refl _,c0,bx⟩
  rintro bt _ ha ⟨aB,aA,ae,af,ay,bv,az,rfl,eb,a0,a4,ba,aj⟩
  clear bx
  obtain _ | bt:=bt
  ·
   rw [Ev] at aj; cases aj
  rw [Ev] at aj
  replace bd:=bd.mono a4
  replace dF:=dF.mono a4
  refine XT (XT (Aa (Rk 0 4 ((tB 17 (decide (aA<((blocks.length:Nat):Int))))::(EP aA aJ blocks aK)) eb a0 fun gv bj=>?_)))
  refine wf (wC (decide (aA<((blocks.length:Nat):Int))) bj (fun bg=>?_) (fun bg=>?_))
  ·
   rw [bg,XW] at aj
   refine wp_skip (XT (wp_block (XT (Au (by kernel_rfl) ?_))))
   replace a0:=a0.drew
   refine Ax [] [(a,0),(d,0),(e,0)] [⟨NW t_ ag ah f k,some 25⟩,⟨JC,some 41⟩,⟨H5 aO room aP ae aB af,some 41⟩] ?_
   refine Dr [0,1,2,3] (dn 3) ((tI 23 aA)::(tS 22 aJ blocks.length aK)::(tS 21 f t_.trips.length k)::(EP aA aJ blocks aK)) bj a0 fun gw ec=>?_
   obtain⟨dA,gV,aj⟩:=Ao aj
   obtain⟨et,e0,fi⟩:=Aj gV
   obtain⟨g,l,gd,cr,fa,c1⟩:=dF.get (by decide) fi
   obtain⟨ao,ap,rfl,e4⟩:=fa
   have bq:=a0.addPlc (b:=g) (o:=l+Yc aA*1) (cs:=[Yb ao dA.length ap]) (fun j c hj=>c1 j _ (Ak hj)) rfl (by kernel_rfl) (by kernel_rfl)
   refine A5 4 (aA) [Yb ao dA.length ap] (fun _ _ _ _ _ h=>h) rfl rfl (rfl) rfl (by decide) (by kernel_rfl) (by kernel_rfl) ec a0.plOk (by rfl) (by rfl) (by rfl) cr (by rfl) et e0 (by kernel_rfl) fun f0 (ed:Kn _ [(a,0),(d,0),(e,0),(g,l+Yc aA*1)] ((tP 24 3 0)::(tI 23 aA)::(tS 22 aJ blocks.length aK)::(tS 21 f t_.trips.length k)::(EP aA aJ blocks aK)) _)=>?_
   refine Dr [5] (dn 5) ((tS 25 ao dA.length ap)::(tS 21 f t_.trips.length k)::(EP aA aJ blocks aK)) ed bq fun gx ee=>?_
   obtain⟨cJ,gD,aj⟩:=Ao aj
   obtain⟨eu,e1,fj⟩:=Aj gD
   obtain⟨m,p,gf,ct,fb,c2⟩:=e4.get (by decide) fj
   obtain rfl:=fb
   have br:=bq.addPlc (b:=m) (o:=p+Yc 0*1) (cs:=[XR cJ]) (fun j c hj=>c2 j _ (Ak hj)) rfl (by kernel_rfl) (by kernel_rfl)
   refine A5 6 (0) [XR cJ] (fun _ _ _ _ _ h=>h) rfl rfl (rfl) rfl (by decide) (by kernel_rfl) (by kernel_rfl) ee bq.plOk (by rfl) (by rfl) (by rfl) ct (by rfl) eu e1 (by kernel_rfl) fun f2 (ef:Kn _ [(a,0),(d,0),(e,0),(g,l+Yc aA*1),(m,p+Yc 0*1)] ((tP 26 4 0)::(tS 25 ao dA.length ap)::(tS 21 f t_.trips.length k)::(EP aA aJ blocks aK)) _)=>?_
   refine Dr [7] (dn 7) ((tI 27 cJ)::(tS 21 f t_.trips.length k)::(EP aA aJ blocks aK)) ef br fun gy eg=>?_
   obtain⟨eK,lC,aj⟩:=Ao aj
   obtain⟨ev,e2,fd⟩:=Aj lC
   obtain⟨q,s,gg,cu,fc,c3⟩:=bd.get (by decide) fd
   obtain⟨_,_,rfl,rfl,⟨_,_,rfl,rfl,⟨_,_,rfl,rfl,⟨_,_,rfl,rfl,⟨_,_,rfl,rfl,rfl⟩⟩⟩⟩⟩:=fc
   have bk:=br.addPlc (b:=q) (o:=s+Yc cJ*6) (cs:=(VU eK)) (fun j c hj=>c3 j _ (Ak hj)) rfl (by kernel_rfl) (by kernel_rfl)
   refine A5 8 (cJ) (VU eK) (fun _ _ _ _ _ h=>h) rfl rfl (rfl) rfl (by decide) (by kernel_rfl) (by kernel_rfl) eg br.plOk (by rfl) (by rfl) (by rfl) cu (by rfl) ev e2 (by kernel_rfl) fun fl (c6:Kn _ [(a,0),(d,0),(e,0),(g,l+Yc aA*1),(m,p+Yc 0*1),(q,s+Yc cJ*6)] ((tP 28 5 0)::(tI 27 cJ)::(tS 21 f t_.trips.length k)::(EP aA aJ blocks aK)) _)=>?_
   refine Dr [9,10,11,12,13] (dn 13) ((tI 33 aA)::(tS 32 aJ blocks.length aK)::(JH f t_ k eK aA aJ blocks aK)) c6 bk fun gi c7=>?_
   obtain⟨gF,lD,aj⟩:=Ao aj
   obtain⟨eo,ew,fe⟩:=Aj lD
   obtain⟨u,x,f9,cn,e6,cv⟩:=dF.get (by decide) fe
   obtain⟨am,an,rfl,e3⟩:=e6
   have bl:=bk.addPlc (b:=u) (o:=x+Yc aA*1) (cs:=[Yb am gF.length an]) (fun j c hj=>cv j _ (Ak hj)) rfl (by kernel_rfl) (by kernel_rfl)
   refine A5 14 (aA) [Yb am gF.length an] (fun _ _ _ _ _ h=>h) rfl rfl (rfl) rfl (by decide) (by kernel_rfl) (by kernel_rfl) c7 bk.plOk (by rfl) (by rfl) (by rfl) cn (by rfl) eo ew (by kernel_rfl) fun fm (c8:Kn _ [(a,0),(d,0),(e,0),(g,l+Yc aA*1),(m,p+Yc 0*1),(q,s+Yc cJ*6),(u,x+Yc aA*1)] ((tP 34 6 0)::(tI 33 aA)::(tS 32 aJ blocks.length aK)::(JH f t_ k eK aA aJ blocks aK)) _)=>?_
   refine Dr [15,16,17] (dn 17) ((tI 37 aA)::(tS 36 aJ blocks.length aK)::(tS 35 am gF.length an)::(JH f t_ k eK aA aJ blocks aK)) c8 bl fun gj c9=>?_
   obtain⟨eJ,jV,aj⟩:=Ao aj
   obtain⟨ep,ex,ff⟩:=Aj jV
   obtain⟨y,z,ga,co,e7,cw⟩:=dF.get (by decide) ff
   obtain⟨aq,ar,rfl,gh⟩:=e7
   have bm:=bl.addPlc (b:=y) (o:=z+Yc aA*1) (cs:=[Yb aq eJ.length ar]) (fun j c hj=>cw j _ (Ak hj)) rfl (by kernel_rfl) (by kernel_rfl)
   refine A5 18 (aA) [Yb aq eJ.length ar] (fun _ _ _ _ _ h=>h) rfl rfl (rfl) rfl (by decide) (by kernel_rfl) (by kernel_rfl) c9 bl.plOk (by rfl) (by rfl) (by rfl) co (by rfl) ep ex (by kernel_rfl) fun fo (da:Kn _ [(a,0),(d,0),(e,0),(g,l+Yc aA*1),(m,p+Yc 0*1),(q,s+Yc cJ*6),(u,x+Yc aA*1),(y,z+Yc aA*1)] ((tP 38 7 0)::(tI 37 aA)::(tS 36 aJ blocks.length aK)::(tS 35 am gF.length an)::(JH f t_ k eK aA aJ blocks aK)) _)=>?_
   refine Dr [19,20,21] (dn 21) ((tI 41 (IntKind.i64.wrap (((eJ.length:Nat):Int)-1)))::(tS 35 am gF.length an)::(JH f t_ k eK aA aJ blocks aK)) da bm fun gk db=>?_
   obtain⟨dI,iC,aj⟩:=Ao aj
   obtain⟨er,ey,fg⟩:=Aj iC
   obtain⟨aa,ab,gb,cp,e8,cx⟩:=e3.get (by decide) fg
   obtain rfl:=e8
   have bn:=bm.addPlc (b:=aa) (o:=ab+(IntKind.i64.wrap (((eJ.length:Nat):Int)-1):Int).toNat*1) (cs:=[XR dI]) (fun j c hj=>cx j _ (Ak hj)) rfl (by kernel_rfl) (by kernel_rfl)
   refine A5 22 (IntKind.i64.wrap (((eJ.length:Nat):Int)-1)) [XR dI] (fun _ _ _ _ _ h=>h) rfl rfl (rfl) rfl (by decide) (by kernel_rfl) (by kernel_rfl) db bm.plOk (by rfl) (by rfl) (by rfl) cp (by rfl) er ey (by kernel_rfl) fun fp (dd:Kn _ [(a,0),(d,0),(e,0),(g,l+Yc aA*1),(m,p+Yc 0*1),(q,s+Yc cJ*6),(u,x+Yc aA*1),(y,z+Yc aA*1),(aa,ab+(IntKind.i64.wrap (((eJ.length:Nat):Int)-1):Int).toNat*1)] ((tP 42 8 0)::(tI 41 (IntKind.i64.wrap (((eJ.length:Nat):Int)-1)))::(tS 35 am gF.length an)::(JH f t_ k eK aA aJ blocks aK)) _)=>?_
   refine Dr [23] (dn 23) ((tI 43 dI)::(JH f t_ k eK aA aJ blocks aK)) dd bn fun gl de=>?_
   obtain⟨dW,jI,aj⟩:=Ao aj
   obtain⟨es,ez,fh⟩:=Aj jI
   obtain⟨ac,ad,gc,cq,e9,cy⟩:=bd.get (by decide) fh
   obtain⟨_,_,rfl,rfl,⟨_,_,rfl,rfl,⟨_,_,rfl,rfl,⟨_,_,rfl,rfl,⟨_,_,rfl,rfl,rfl⟩⟩⟩⟩⟩:=e9
   have b3:=bn.addPlc (b:=ac) (o:=ad+Yc dI*6) (cs:=(VU dW)) (fun j c hj=>cy j _ (Ak hj)) rfl (by kernel_rfl) (by kernel_rfl)
   refine A5 24 (dI) (VU dW) (fun _ _ _ _ _ h=>h) rfl rfl (rfl) rfl (by decide) (by kernel_rfl) (by kernel_rfl) de bn.plOk (by rfl) (by rfl) (by rfl) cq (by rfl) es ez (by kernel_rfl) fun fq (df:Kn _ [(a,0),(d,0),(e,0),(g,l+Yc aA*1),(m,p+Yc 0*1),(q,s+Yc cJ*6),(u,x+Yc aA*1),(y,z+Yc aA*1),(aa,ab+(IntKind.i64.wrap (((eJ.length:Nat):Int)-1):Int).toNat*1),(ac,ad+Yc dI*6)] ((tP 44 9 0)::(tI 43 dI)::(JH f t_ k eK aA aJ blocks aK)) _)=>?_
   refine Dr [25] (dn 25) (JI dW eK aA aJ blocks aK) df b3 fun ci dg=>?_
   have dh:Kn _ [(a,0),(d,0),(e,0),(g,l+Yc aA*1),(m,p+Yc 0*1),(q,s+Yc cJ*6),(u,x+Yc aA*1),(y,z+Yc aA*1),(aa,ab+(IntKind.i64.wrap (((eJ.length:Nat):Int)-1):Int).toNat*1),(ac,ad+Yc dI*6),(0,0)] (JI dW eK aA aJ blocks aK) _:=dg.push (0,0) (by kernel_rfl)
   have ek:=b3.addPlc (b:=0) (o:=0) (cs:=[]) (fun j c hj=>by simp at hj) rfl (by kernel_rfl) (by kernel_rfl)
   refine BZ (e':=[(a,0),(d,0),(e,0),(g,l+Yc aA*1),(m,p+Yc 0*1),(q,s+Yc cJ*6),(u,x+Yc aA*1),(y,z+Yc aA*1),(aa,ab+(IntKind.i64.wrap (((eJ.length:Nat):Int)-1):Int).toNat*1),(ac,ad+Yc dI*6),(0,0)]) (pl':=[⟨NW t_ ag ah f k,some 25⟩,⟨JC,some 41⟩,⟨H5 aO room aP ae aB af,some 41⟩,⟨[Yb ao dA.length ap],none⟩,⟨[XR cJ],none⟩,⟨VU eK,none⟩,⟨[Yb am gF.length an],none⟩,⟨[Yb aq eJ.length ar],none⟩,⟨[XR dI],none⟩,⟨VU dW,none⟩,⟨[],none⟩]) (fun _ hp=>hp.pop (Y8 rfl) (by kernel_rfl)) ?_
   have bz:Kn _ [(a,0),(d,0),(e,0),(g,l+Yc aA*1),(m,p+Yc 0*1),(q,s+Yc cJ*6),(u,x+Yc aA*1),(y,z+Yc aA*1),(aa,ab+(IntKind.i64.wrap (((eJ.length:Nat):Int)-1):Int).toNat*1),(ac,ad+Yc dI*6),(0,0),(0,0)] (JI dW eK aA aJ blocks aK) _:=dh.push (0,0) (by kernel_rfl)
   have b4:=ek.addPlc (b:=0) (o:=0) (cs:=[]) (fun j c hj=>by simp at hj) rfl (by kernel_rfl) (by kernel_rfl)
   refine BZ (e':=[(a,0),(d,0),(e,0),(g,l+Yc aA*1),(m,p+Yc 0*1),(q,s+Yc cJ*6),(u,x+Yc aA*1),(y,z+Yc aA*1),(aa,ab+(IntKind.i64.wrap (((eJ.length:Nat):Int)-1):Int).toNat*1),(ac,ad+Yc dI*6),(0,0),(0,0)]) (pl':=[⟨NW t_ ag ah f k,some 25⟩,⟨JC,some 41⟩,⟨H5 aO room aP ae aB af,some 41⟩,⟨[Yb ao dA.length ap],none⟩,⟨[XR cJ],none⟩,⟨VU eK,none⟩,⟨[Yb am gF.length an],none⟩,⟨[Yb aq eJ.length ar],none⟩,⟨[XR dI],none⟩,⟨VU dW,none⟩,⟨[],none⟩,⟨[],none⟩]) (fun _ hp=>hp.pop (Y8 rfl) (by kernel_rfl)) ?_
   refine BT (fun W=>∀ (au:Nat),∀ (av:Nat),∀ a' w',(∃ (be:Array Value)(a3:Ac),a' = ⟨be,[]⟩∧Kn 68 (Nb a d e g l aA m p q s cJ u x y z aa ab eJ ac ad dI au av) ((tP 11 11 0)::(tP 10 10 0)::(JI dW eK aA aJ blocks aK)) be∧Ai ⟨w,h,BF⟩ a3 (Nb a d e g l aA m p q s cJ u x y z aa ab eJ ac ad dI au av) [⟨NW t_ ag ah f k,some 25⟩,⟨JC,some 41⟩,⟨H5 aO room aP ae aB af,some 41⟩,⟨[Yb ao dA.length ap],none⟩,⟨[XR cJ],none⟩,⟨VU eK,none⟩,⟨[Yb am gF.length an],none⟩,⟨[Yb aq eJ.length ar],none⟩,⟨[XR dI],none⟩,⟨VU dW,none⟩,⟨GB,some 46⟩,⟨GB,some 46⟩] [⟨ae,aB.length,af,74,3,ay,0⟩] w'∧Ac.le az a3)→W (Nb a d e g l aA m p q s cJ u x y z aa ab eJ ac ad dI au av) [⟨NW t_ ag ah f k,some 25⟩,⟨JC,some 41⟩,⟨H5 aO room aP ae aB af,some 41⟩,⟨[Yb ao dA.length ap],none⟩,⟨[XR cJ],none⟩,⟨VU eK,none⟩,⟨[Yb am gF.length an],none⟩,⟨[Yb aq eJ.length ar],none⟩,⟨[XR dI],none⟩,⟨VU dW,none⟩,⟨[],some 46⟩,⟨GB,some 46⟩] [26,27,25,24,23,22,21,20,19,18,17,16,15,14,13,12,11,10,9,8,7,6,5,4,3,2,1,0] a' w') ?_ (fun ch=>?_)
   ·
    intro au av
    rintro _ g1 ⟨be,a3,rfl,di,el,b0⟩
    replace ba:=ba.mono b0
    refine Dl 28 fun K hK=>?_
    refine DT 10 0 (.agg (VU eK)) (VU eK) di el fun g2 dk b5=>hK _ _ (Ay.forget [10] b5.plOk) ?_
    refine CU 29 rfl (by kernel_rfl) (by decide) (rfl) (by kernel_rfl) fun K hK=>?_
    refine DT 11 0 (.agg (VU dW)) (VU dW) dk b5 fun g3 dl b6=>hK _ _ ?_
    refine Ax [] (Nb a d e g l aA m p q s cJ u x y z aa ab eJ ac ad dI au av) [⟨NW t_ ag ah f k,some 25⟩,⟨JC,some 41⟩,⟨H5 aO room aP ae aB af,some 41⟩,⟨[Yb ao dA.length ap],none⟩,⟨[XR cJ],none⟩,⟨VU eK,none⟩,⟨[Yb am gF.length an],none⟩,⟨[Yb aq eJ.length ar],none⟩,⟨[XR dI],none⟩,⟨VU dW,none⟩,⟨[],some 46⟩,⟨VU dW,some 46⟩] ?_
    have dm:Kn _ _ ((tP 11 11 0)::(tP 10 10 0)::(EP aA aJ blocks aK)) _:=dl.kp
    refine AL (by kernel_rfl) (Aa (Rk 0 15 ((tA 60 (Uo dW eK))::(tS 47 ae aB.length af)::(EP aA aJ blocks aK)) dm b6 fun gn dp=>?_))
    refine wl fun K hK=>?_
    refine wS 74 3 (Uo dW eK) dp b6 fun bw fs g4 (dq:Kn _ (Nb a d e g l aA m p q s cJ u x y z aa ab eJ ac ad dI au av) ((tS 61 bw 1 1)::(tA 60 (Uo dW eK))::(tS 47 ae aB.length af)::(EP aA aJ blocks aK)) _) b7=>?_
    have bh:Ae a3 ([Cn.mk (IntKind.i64.wrap (dW.start+dW.least)) (IntKind.i64.wrap (dW.start+dW.most)) eK.start]:List Cn) ([.int .i64 (IntKind.i64.wrap (dW.start+dW.least)),.int .i64 (IntKind.i64.wrap (dW.start+dW.most)),.int .i64 eK.start]:Ye):=⟨_,_,rfl,((Ab Ad (Ab Ad Ad)):rep a3 ((Cn.mk (IntKind.i64.wrap (dW.start+dW.least)) (IntKind.i64.wrap (dW.start+dW.most)) eK.start):Cn) _),rfl⟩
    refine hK _ _ ?_
    obtain⟨jR,ex62,aj⟩:=Ao aj
    obtain⟨bs,eh⟩:=Bj ex62
    refine wl fun K hK=>?_
    refine AS 0 24 1 _ (jR.length) _ ([.int .i64 (IntKind.i64.wrap (dW.start+dW.least)),.int .i64 (IntKind.i64.wrap (dW.start+dW.most)),.int .i64 eK.start]:Ye) dq b7 rfl rfl (by decide) rfl (by rfl) (by kernel_rfl) (by rfl) (by rfl) (Ae.len bh) (b7.rowCell (i:=1) rfl) bh.one (by rw [bs]; simp <;> omega) (by rw [bs]; exact eh) (by decide) fun a5 a6 ck ft g5 c4 (ds:Kn _ (Nb a d e g l aA m p q s cJ u x y z aa ab eJ ac ad dI au av) ((tS 62 a5 jR.length a6)::(tS 61 bw 1 1)::(tA 60 (Uo dW eK))::(tS 47 ae aB.length af)::(EP aA aJ blocks aK)) _) b8=>?_
    have cz:Ae a3 jR (ay++([.int .i64 (IntKind.i64.wrap (dW.start+dW.least)),.int .i64 (IntKind.i64.wrap (dW.start+dW.most)),.int .i64 eK.start]:Ye)):=by rw [bs]; exact Ae.append ba bh
    obtain rfl:ck=0:=Nat.le_zero.1 c4
    refine hK _ _ ?_
    refine Rk 17 1 ((tP 63 2 1)::(tS 62 a5 jR.length a6)::(EP aA aJ blocks aK)) ds b8 fun fu dt=>?_
    refine wl fun K hK=>?_
    refine DT 2 1 (.c (Yb a5 jR.length a6)) [Yb aO room.length aP,Yb a5 jR.length a6,XR 0] dt b8 fun g6 du b9=>hK _ _ ?_
    have dv:Kn _ _ (EP aA aJ blocks aK) _:=du.kp
    refine wf (Aa (Rk 0 3 [tI 9 (IntKind.i64.wrap (aA+1)),tP 8 2 0,tP 6 1 0,tP 3 0 0,tS 1 aJ blocks.length aK] dv b9 fun gp dw=>?_))
    refine wf ?_
    exact XY bt ⟨Y4 _,XY jR ⟨IntKind.i64.wrap (aA+1),a5,a6,ay++([.int .i64 (IntKind.i64.wrap (dW.start+dW.least)),.int .i64 (IntKind.i64.wrap (dW.start+dW.most)),.int .i64 eK.start]:Ye),_,_,rfl,(dw.keep [9,8,6,3,1] (by rfl)).cut 3 (by kernel_rfl),(b9.cutRw 1).cutPl 3 (by kernel_rfl),XU a4 b0,cz,aj⟩⟩
   refine Gn 26 27 rfl rfl (by kernel_rfl) (by decide) (rfl) (rfl) (fun K hK=>?_) (fun K hK=>?_)
   ·
    refine MO 10 GB bz b4 fun aw fv f3 (dx:Kn _ (Wa a d e g l aA m p q s cJ u x y z aa ab eJ ac ad dI aw) ((tP 10 10 0)::(JI dW eK aA aJ blocks aK)) _) (ca:Ai _ _ (Wa a d e g l aA m p q s cJ u x y z aa ab eJ ac ad dI aw) [⟨NW t_ ag ah f k,some 25⟩,⟨JC,some 41⟩,⟨H5 aO room aP ae aB af,some 41⟩,⟨[Yb ao dA.length ap],none⟩,⟨[XR cJ],none⟩,⟨VU eK,none⟩,⟨[Yb am gF.length an],none⟩,⟨[Yb aq eJ.length ar],none⟩,⟨[XR dI],none⟩,⟨VU dW,none⟩,⟨GB,some 46⟩,⟨[],none⟩] [⟨ae,aB.length,af,74,3,ay,0⟩] _)=>hK _ _ (Ay.unset 10 rfl (by kernel_rfl) (Ay.forget [10] ca.plOk)) (BZ (e':=(Wa a d e g l aA m p q s cJ u x y z aa ab eJ ac ad dI aw)) (pl':=[⟨NW t_ ag ah f k,some 25⟩,⟨JC,some 41⟩,⟨H5 aO room aP ae aB af,some 41⟩,⟨[Yb ao dA.length ap],none⟩,⟨[XR cJ],none⟩,⟨VU eK,none⟩,⟨[Yb am gF.length an],none⟩,⟨[Yb aq eJ.length ar],none⟩,⟨[XR dI],none⟩,⟨VU dW,none⟩,⟨[],some 46⟩,⟨[],none⟩]) (fun _ hp=>hp.unset 10 rfl (by kernel_rfl)) ?_)
    refine Dl 27 fun K hK=>?_
    refine MO 11 GB dx ca fun a1 fw f4 (dy:Kn _ (Nb a d e g l aA m p q s cJ u x y z aa ab eJ ac ad dI aw a1) ((tP 11 11 0)::(tP 10 10 0)::(JI dW eK aA aJ blocks aK)) _) (cb:Ai _ _ (Nb a d e g l aA m p q s cJ u x y z aa ab eJ ac ad dI aw a1) [⟨NW t_ ag ah f k,some 25⟩,⟨JC,some 41⟩,⟨H5 aO room aP ae aB af,some 41⟩,⟨[Yb ao dA.length ap],none⟩,⟨[XR cJ],none⟩,⟨VU eK,none⟩,⟨[Yb am gF.length an],none⟩,⟨[Yb aq eJ.length ar],none⟩,⟨[XR dI],none⟩,⟨VU dW,none⟩,⟨GB,some 46⟩,⟨GB,some 46⟩] [⟨ae,aB.length,af,74,3,ay,0⟩] _)=>hK _ _ (Ay.unset 11 rfl (by kernel_rfl) (Ay.forget [10] cb.plOk)) (BZ (e':=(Nb a d e g l aA m p q s cJ u x y z aa ab eJ ac ad dI aw a1)) (pl':=[⟨NW t_ ag ah f k,some 25⟩,⟨JC,some 41⟩,⟨H5 aO room aP ae aB af,some 41⟩,⟨[Yb ao dA.length ap],none⟩,⟨[XR cJ],none⟩,⟨VU eK,none⟩,⟨[Yb am gF.length an],none⟩,⟨[Yb aq eJ.length ar],none⟩,⟨[XR dI],none⟩,⟨VU dW,none⟩,⟨[],some 46⟩,⟨GB,some 46⟩]) (fun _ hp=>hp.unset 11 rfl (by kernel_rfl)) ?_)
    refine AK [26,27,25,24,23,22,21,20,19,18,17,16,15,14,13,12,11,10,9,8,7,6,5,4,3,2,1,0] (by kernel_rfl) (by rfl) (ch aw a1 _ _ ?_)
    exact XY _ ⟨_,rfl,dy.kp,cb,Ac.le_refl _⟩
   refine MO 11 GB bz b4 fun ax fx f5 (dz:Kn _ (T7 a d e g l aA m p q s cJ u x y z aa ab eJ ac ad dI ax) ((tP 11 11 0)::(JI dW eK aA aJ blocks aK)) _) (cc:Ai _ _ (T7 a d e g l aA m p q s cJ u x y z aa ab eJ ac ad dI ax) [⟨NW t_ ag ah f k,some 25⟩,⟨JC,some 41⟩,⟨H5 aO room aP ae aB af,some 41⟩,⟨[Yb ao dA.length ap],none⟩,⟨[XR cJ],none⟩,⟨VU eK,none⟩,⟨[Yb am gF.length an],none⟩,⟨[Yb aq eJ.length ar],none⟩,⟨[XR dI],none⟩,⟨VU dW,none⟩,⟨[],none⟩,⟨GB,some 46⟩] [⟨ae,aB.length,af,74,3,ay,0⟩] _)=>hK _ _ (Ay.unset 11 rfl (by kernel_rfl) cc.plOk) (BZ (e':=(T7 a d e g l aA m p q s cJ u x y z aa ab eJ ac ad dI ax)) (pl':=[⟨NW t_ ag ah f k,some 25⟩,⟨JC,some 41⟩,⟨H5 aO room aP ae aB af,some 41⟩,⟨[Yb ao dA.length ap],none⟩,⟨[XR cJ],none⟩,⟨VU eK,none⟩,⟨[Yb am gF.length an],none⟩,⟨[Yb aq eJ.length ar],none⟩,⟨[XR dI],none⟩,⟨VU dW,none⟩,⟨[],none⟩,⟨GB,some 46⟩]) (fun _ hp=>hp.unset 11 rfl (by kernel_rfl)) ?_)
   refine Dl 26 fun K hK=>?_
   refine MO 10 GB dz cc fun a2 fy f6 (d0:Kn _ (Nb a d e g l aA m p q s cJ u x y z aa ab eJ ac ad dI a2 ax) ((tP 10 10 0)::(tP 11 11 0)::(JI dW eK aA aJ blocks aK)) _) (cd:Ai _ _ (Nb a d e g l aA m p q s cJ u x y z aa ab eJ ac ad dI a2 ax) [⟨NW t_ ag ah f k,some 25⟩,⟨JC,some 41⟩,⟨H5 aO room aP ae aB af,some 41⟩,⟨[Yb ao dA.length ap],none⟩,⟨[XR cJ],none⟩,⟨VU eK,none⟩,⟨[Yb am gF.length an],none⟩,⟨[Yb aq eJ.length ar],none⟩,⟨[XR dI],none⟩,⟨VU dW,none⟩,⟨GB,some 46⟩,⟨GB,some 46⟩] [⟨ae,aB.length,af,74,3,ay,0⟩] _)=>hK _ _ (Ay.unset 10 rfl (by kernel_rfl) (Ay.forget [10] cd.plOk)) (BZ (e':=(Nb a d e g l aA m p q s cJ u x y z aa ab eJ ac ad dI a2 ax)) (pl':=[⟨NW t_ ag ah f k,some 25⟩,⟨JC,some 41⟩,⟨H5 aO room aP ae aB af,some 41⟩,⟨[Yb ao dA.length ap],none⟩,⟨[XR cJ],none⟩,⟨VU eK,none⟩,⟨[Yb am gF.length an],none⟩,⟨[Yb aq eJ.length ar],none⟩,⟨[XR dI],none⟩,⟨VU dW,none⟩,⟨[],some 46⟩,⟨GB,some 46⟩]) (fun _ hp=>hp.unset 10 rfl (by kernel_rfl)) ?_)
   refine AK [26,27,25,24,23,22,21,20,19,18,17,16,15,14,13,12,11,10,9,8,7,6,5,4,3,2,1,0] (by kernel_rfl) (by rfl) (ch a2 ax _ _ ?_)
   exact XY _ ⟨_,rfl,d0.kp,cd,Ac.le_refl _⟩
  rw [bg,XV] at aj
  refine wp_exit ?_
  obtain rfl:=XZ aj
  exact XY ae ⟨af,ay,_,_,rfl,bj.kp,a0,a4,ba⟩
 rintro _ f7 ⟨ak,al,a8,bu,a9,rfl,d1,a7,ei,bi⟩
 refine XT (Au (by kernel_rfl) ?_)
 replace a7:=a7.drew
 refine Ax [] [(a,0),(d,0),(e,0)] [⟨NW t_ ag ah f k,some 25⟩,⟨JC,some 41⟩,⟨H5 aO room aP ak ai al,some 41⟩] ?_
 refine Dr [0,1] [1,0] [tA 65 (H5 aO room aP ak ai al),tA 64 (H5 aO room aP ak ai al),tP 6 1 0] d1 a7 fun gq d3=>?_
 obtain⟨bf,b1,e5,bb⟩:=a7.settle (i:=0) rfl
 replace eE:=eE.mono (XU ei b1)
 replace bi:=bi.mono b1
 replace bb:Ai _ _ [(a,0),(d,0),(e,0)] [⟨NW t_ ag ah f k,some 25⟩,⟨JC,some 41⟩,⟨H5 aO room aP ak ai al,some 41⟩] [⟨ak,ai.length,al,74,3,a8,_⟩] _:=bb
 have bc:At bf ak al ai:=⟨_,bi,e5,a7.rowCap (i:=0) rfl⟩
 obtain⟨jS,ex66,H⟩:=Ao H
 refine Dl 2 fun K hK=>?_
 refine wc [.agg (H5 aO room aP ak ai al)] d3 bb (Rr n bb.has (Am.mk room ai 0) ((Ab (Af eE) (Ab (Af bc) Ad)):rep bf (Am.mk room ai 0) _) ex66) fun gz cm g8 cl b2 bp=>?_
 replace eE:=eE.mono b2
 replace bc:=bc.mono b2
 obtain rfl:=cl
 refine⟨.one (.c (XR jS)),rfl,fun fz (d4:Kn _ [(a,0),(d,0),(e,0)] [tI 66 jS,tA 65 (H5 aO room aP ak ai al),tA 64 (H5 aO room aP ak ai al),tP 6 1 0] _)=>hK _ _ bp.plOk ?_⟩
 refine Dr [3] (dn 3) [tB 67 (jS == 0),tA 64 (H5 aO room aP ak ai al),tP 6 1 0] d4 bp fun gr d5=>?_
 refine CU 4 rfl (by kernel_rfl) (by decide) (rfl) (by kernel_rfl) fun K hK=>?_
 refine DT 1 0 (.agg (H5 aO room aP ak ai al)) (H5 aO room aP ak ai al) d5 bp fun g9 d6 ce=>hK _ _ ?_
 refine Ax [] [(a,0),(d,0),(e,0)] [⟨NW t_ ag ah f k,some 25⟩,⟨H5 aO room aP ak ai al,some 41⟩,⟨H5 aO room aP ak ai al,some 41⟩] ?_
 refine Dr [5] (dn 5) [tB 7 (jS == 0),tP 6 1 0] d6 ce fun gs d7=>?_
 refine AL (by kernel_rfl) (wp_ret ?_)
 obtain rfl:=XZ H
 exact rt (.tup [.agg (H5 aO room aP ak ai al),.c (.bool (jS == 0))]) d7 ce ⟨_,_,rfl,⟨_,rfl,((Ab (Af eE) (Ab (Af bc) Ad)):rep cm ((Am.mk room ai 0):Am) _)⟩,rfl⟩
abbrev Fw (aA d)(aB:List Int)(e aQ)(words:List (IK .u16))(aR):=([tI 6 aA,tS 5 d aB.length e,tP 2 0 0,tS 1 aQ words.length aR]:TM)
abbrev GD (aQ)(words:List (IK .u16))(aR):=([tP 2 0 0,tS 1 aQ words.length aR]:TM)
abbrev Wb (cL:AH)(f d)(aB:List Int)(e aA aQ)(words:List (IK .u16))(aR):=((tI 56 (IntKind.i64.wrap (cL.least+(Int.tmod (IntKind.i64.wrap (Int.tdiv f 3)) (IntKind.i64.wrap ((IntKind.i64.wrap (cL.most-cL.least))+1))))))::(tS 55 d aB.length e)::(tI 6 aA)::(GD aQ words aR):TM)
abbrev Wc (cL:AH)(f aA d)(aB:List Int)(e aQ)(words:List (IK .u16))(aR):=((tI 9 (IntKind.i64.wrap (cL.least+(Int.tmod (IntKind.i64.wrap (Int.tdiv f 3)) (IntKind.i64.wrap ((IntKind.i64.wrap (cL.most-cL.least))+1))))))::(tP 7 2 0)::(Fw aA d aB e aQ words aR):TM)
theorem P6 (n:Nat) {h:Ac} {w:World} (hh:CK h w) (t_:An) {cN:Ye} (dL:rep h t_ cN) (words:List (IK .u16)) {aQ:Yd} {aR:Nat} (eA:At h aQ aR words) {r:List Int} (H:Gm n t_ words=some r) :
  Calls Tryz.prog 11 #[.agg cN.toArray,.slice aQ words.length aR] w (CP (fun h v=>∃ a c,v=.slice a r.length c∧At h a c r) h w):=by
 obtain⟨_,_,rfl,rfl,⟨_,_,rfl,rfl,⟨_,_,rfl,⟨y,z,rfl,bw⟩,⟨s,u,rfl,be⟩⟩⟩⟩:=dL
 refine enter 60 [.agg (NW t_ y z s u),.c (Yb aQ words.length aR)] Tryz.func11 rfl rfl rfl rfl fun t hk=>?_
 have hm:=Ai.begin h w hh
 unfold Gm at H
 refine XT (Aa (wl fun K hK=>?_))
 refine wb (.agg (NW t_ y z s u)) hk hm fun k ea ee (ce:Kn _ [(k,0)] [tP 2 0 0,tA 0 (NW t_ y z s u),tS 1 aQ words.length aR] _) av=>hK _ _ ?_
 refine Rk 1 1 (GD aQ words aR) ce av fun eo cm=>?_
 refine wf (XT (Aa (Rk 0 1 ((tS 5 none 0 0)::(GD aQ words aR)) cm av fun et cu=>?_)))
 refine wf (XT (XT (Aa (Rk 0 1 ((tI 6 0)::(tS 5 none 0 0)::(GD aQ words aR)) cu av fun ew cz=>?_))))
 refine wf ?_
 have dp:Ai _ _ [(k,0)] [⟨NW t_ y z s u,some 25⟩] [⟨none,0,0,3,1,[],0⟩] _:=av.nilRow 3 1
 have b8:Ae h ([]:List Int) []:=Ae.nil
 obtain⟨ac,bp,H⟩:=Ao H
 refine Ar (fun a' w'=>∃ (ad:Yd)(ae:Nat)(ak:Ye)(bi:Array Value)(ar:Ac),a' = ⟨bi,[]⟩∧Kn 60 [(k,0)] [tS 5 ad ac.length ae] bi∧Ai ⟨w,h,BF⟩ ar [(k,0)] [⟨NW t_ y z s u,some 25⟩] [⟨ad,ac.length,ae,3,1,ak,0⟩] w'∧Ac.le h ar∧Ae ar ac ak) ?_ ?_
 ·
  refine wp_block ?_
  refine Av (fun d1 a' w'=>∃ (aB:List Int)(aA:Int)(d:Yd)(e:Nat)(aa:Ye)(bj:Array Value)(ah:Ac),a' = ⟨bj,[]⟩∧Kn 60 [(k,0)] (Fw aA d aB e aQ words aR) bj∧Ai ⟨w,h,BF⟩ ah [(k,0)] [⟨NW t_ y z s u,some 25⟩] [⟨d,aB.length,e,3,1,aa,0⟩] w'∧Ac.le h ah∧Ae ah aB aa∧BS d1 t_ words aB aA=some ac) n ?_ ?_
  ·
   exact XY ([]:List Int) ⟨0,none,0,[],_,_,rfl,cz.kp,dp,Ac.le_refl _,b8,bp⟩
  rintro aj _ fg ⟨aB,aA,d,e,aa,bj,ah,rfl,c6,aw,af,ag,g⟩
  clear bp
  obtain _ | aj:=aj
  ·
   rw [BS] at g; cases g
  rw [BS] at g
  replace be:=be.mono af
  replace eA:=eA.mono af
  refine XT (XT (Aa (Rk 0 5 ((tB 14 (decide (aA<((t_.trips.length:Nat):Int))))::(Fw aA d aB e aQ words aR)) c6 aw fun e3 a7=>?_)))
  refine wf (wC (decide (aA<((t_.trips.length:Nat):Int))) a7 (fun az=>?_) (fun az=>?_))
  ·
   rw [az,XW] at g
   refine wp_skip (XT (wp_block (XT (Aa (Rk 0 3 ((tI 19 aA)::(tS 18 s t_.trips.length u)::(Fw aA d aB e aQ words aR)) a7 aw fun e4 c7=>?_)))))
   obtain⟨cL,jY,g⟩:=Ao g
   obtain⟨dr,dt,dz⟩:=Aj jY
   obtain⟨l,m,ef,b3,dx,b9⟩:=be.get (by decide) dz
   obtain⟨_,_,rfl,rfl,⟨_,_,rfl,rfl,⟨_,_,rfl,rfl,⟨_,_,rfl,rfl,⟨_,_,rfl,rfl,rfl⟩⟩⟩⟩⟩:=dx
   have bu:=aw.addPlc (b:=l) (o:=m+Yc aA*6) (cs:=(VU cL)) (fun j c hj=>b9 j _ (Ak hj)) rfl (by kernel_rfl) (by kernel_rfl)
   refine A9 3 (aA) rfl rfl (rfl) rfl (by decide) c7 (by rfl) (by rfl) (by rfl) b3 (by rfl) dr dt (by kernel_rfl) fun d9 (c8:Kn _ [(k,0),(l,m+Yc aA*6)] ((tP 20 1 0)::(tI 19 aA)::(tS 18 s t_.trips.length u)::(Fw aA d aB e aQ words aR)) _)=>?_
   refine Rk 4 1 ((tA 21 (VU cL))::(Fw aA d aB e aQ words aR)) c8 bu fun e5 c9=>?_
   refine wl fun K hK=>?_
   refine wa [XR 0,XR 0,XR 0,XR 0,XR 0,XR 0] c9 bu fun p bz fh (da:Kn _ (UR k l m aA p) ((tP 7 2 0)::(tA 21 (VU cL))::(Fw aA d aB e aQ words aR)) _) dq=>hK _ _ ?_
   refine wl fun K hK=>?_
   refine DT 2 0 (.agg (VU cL)) (VU cL) da dq fun fi db ai=>hK _ _ ?_
   have dc:Kn _ _ ((tP 7 2 0)::(Fw aA d aB e aQ words aR)) _:=db.kp
   refine wf (XT (Aa (Rk 0 1 ((tI 8 1)::(tP 7 2 0)::(Fw aA d aB e aQ words aR)) dc ai fun e6 dd=>?_)))
   refine wf (XT (XT (Aa (Rk 0 3 ((tB 24 (decide (((words.length:Nat):Int)>0)))::(tI 8 1)::(tP 7 2 0)::(Fw aA d aB e aQ words aR)) dd ai fun e7 a8=>?_))))
   refine wf ?_
   obtain⟨f,ab,g⟩:=Ao g
   refine Ar (fun a' w'=>∃ (bk:Array Value)(x:Ac),a' = ⟨bk,[]⟩∧Kn 60 (UR k l m aA p) ((tI 8 f)::(tP 7 2 0)::(Fw aA d aB e aQ words aR)) bk∧Ai ⟨w,h,BF⟩ x (UR k l m aA p) [⟨NW t_ y z s u,some 25⟩,⟨VU cL,none⟩,⟨VU cL,some 46⟩] [⟨d,aB.length,e,3,1,aa,0⟩] w'∧Ac.le ah x) ?_ ?_
   ·
    refine wC (decide (((words.length:Nat):Int)>0)) a8 (fun a0=>?_) (fun a0=>?_)
    ·
     rw [a0,XW] at ab
     refine Aa (Rk 0 4 ((tI 28 ((words.length:Nat):Int))::(tI 26 aA)::(tS 25 aQ words.length aR)::(tP 7 2 0)::(Fw aA d aB e aQ words aR)) a8 ai fun e8 de=>?_)
     obtain⟨gN,iQ,ab⟩:=Ao ab
     refine X6 4 de rfl rfl (rfl) rfl (by decide) (by rfl) (by rfl) (TP iQ) fun eb (df:Kn _ (UR k l m aA p) ((tI 29 (Int.tmod aA ((words.length:Nat):Int)))::(tI 28 ((words.length:Nat):Int))::(tI 26 aA)::(tS 25 aQ words.length aR)::(tP 7 2 0)::(Fw aA d aB e aQ words aR)) _)=>?_
     obtain⟨dM,iA,ab⟩:=Ao ab
     obtain⟨ds,du,d0⟩:=Aj iA
     obtain⟨bo,bx,eg,b4,dy,ca⟩:=eA.get (by decide) d0
     obtain rfl:=dy
     have bv:=ai.addPlc (b:=bo) (o:=bx+(Int.tmod aA ((words.length:Nat):Int):Int).toNat*1) (cs:=[.int .u16 dM.n]) (fun j c hj=>ca j _ (Ak hj)) rfl (by kernel_rfl) (by kernel_rfl)
     refine A9 5 (Int.tmod aA ((words.length:Nat):Int)) rfl rfl (rfl) rfl (by decide) df (by rfl) (by rfl) (by rfl) b4 (by rfl) ds du (by kernel_rfl) fun ec (dg:Kn _ [(k,0),(l,m+Yc aA*6),(p,0),(bo,bx+(Int.tmod aA ((words.length:Nat):Int):Int).toNat*1)] ((tP 30 3 0)::(tI 29 (Int.tmod aA ((words.length:Nat):Int)))::(tI 28 ((words.length:Nat):Int))::(tI 26 aA)::(tS 25 aQ words.length aR)::(tP 7 2 0)::(Fw aA d aB e aQ words aR)) _)=>?_
     refine Rk 6 3 ((tI 8 (IntKind.i64.wrap dM.n))::(tP 7 2 0)::(Fw aA d aB e aQ words aR)) dg bv fun e9 dh=>?_
     refine wf ?_
     obtain rfl:=XZ ab
     exact XY _ ⟨_,rfl,(dh.keep [8,7,6,5,2,1] (by rfl)).cut 3 (by kernel_rfl),bv.cutPl 3 (by kernel_rfl),Ac.le_refl _⟩
    rw [a0,XV] at ab
    refine wp_skip ?_
    obtain rfl:=XZ ab
    exact XY _ ⟨_,rfl,a8.kp,ai,Ac.le_refl _⟩
   rintro _ fj ⟨bk,x,rfl,di,q,au⟩
   replace ag:=ag.mono au
   refine XT (Au (by kernel_rfl) ?_)
   replace q:=q.drew
   refine Ax [] (UR k l m aA p) [⟨NW t_ y z s u,some 25⟩,⟨VU cL,none⟩,⟨VU cL,some 46⟩] ?_
   refine Dr [0,1,2,3,4,5,6,7,8,9] (dn 9) ((tI 42 (IntKind.i64.wrap ((IntKind.i64.wrap (cL.most-cL.least))+1)))::(tI 36 (IntKind.i64.wrap (Int.tdiv f 3)))::(tI 34 cL.least)::(tI 8 f)::(tP 7 2 0)::(Fw aA d aB e aQ words aR)) di q fun ei cf=>?_
   obtain⟨x43,ex43,g⟩:=Ao g
   refine X7 10 (fun _ _ _ _ _ h=>h) cf rfl rfl (rfl) rfl (by decide) (by kernel_rfl) (by kernel_rfl) q.plOk (by rfl) (by rfl) (TP ex43) fun d2 (cg:Kn _ (UR k l m aA p) ((tI 43 (Int.tmod (IntKind.i64.wrap (Int.tdiv f 3)) (IntKind.i64.wrap ((IntKind.i64.wrap (cL.most-cL.least))+1))))::(tI 42 (IntKind.i64.wrap ((IntKind.i64.wrap (cL.most-cL.least))+1)))::(tI 36 (IntKind.i64.wrap (Int.tdiv f 3)))::(tI 34 cL.least)::(tI 8 f)::(tP 7 2 0)::(Fw aA d aB e aQ words aR)) _)=>?_
   refine Dr [11,12] (dn 12) ((tI 9 (IntKind.i64.wrap (cL.least+(Int.tmod (IntKind.i64.wrap (Int.tdiv f 3)) (IntKind.i64.wrap ((IntKind.i64.wrap (cL.most-cL.least))+1))))))::(tI 8 f)::(tP 7 2 0)::(Fw aA d aB e aQ words aR)) cg q fun ej ch=>?_
   refine AL (by kernel_rfl) (XT (XT (Aa (Rk 0 2 ((tI 46 (Int.tmod f 3))::(Wc cL f aA d aB e aQ words aR)) ch q fun ek ci=>?_))))
   refine wf (wp_block (XT (Aa (Rk 0 2 ((tB 47 ((Int.tmod f 3) == 0))::(tI 46 (Int.tmod f 3))::(Wc cL f aA d aB e aQ words aR)) ci q fun el a5=>?_))))
   refine wf (wC (((Int.tmod f 3) == 0)) a5 (fun ax=>?_) (fun ax=>?_))
   ·
    rw [ax,XW] at g
    refine Aa (Rk 0 3 ((tI 9 cL.least)::(Fw aA d aB e aQ words aR)) a5 q fun em cj=>?_)
    refine wf (Aa (Rk 0 2 ((tI 56 cL.least)::(tS 55 d aB.length e)::(tI 6 aA)::(GD aQ words aR)) cj q fun en ck=>?_))
    refine wl fun K hK=>?_
    refine wS 3 1 [XR cL.least] ck q fun bl d3 fa (cl:Kn _ (UR k l m aA p) ((tS 57 bl 1 1)::(tI 56 cL.least)::(tS 55 d aB.length e)::(tI 6 aA)::(GD aQ words aR)) _) br=>?_
    have a1:Ae x ([cL.least]:List Int) ([.int .i64 cL.least]:Ye):=⟨_,_,rfl,(Ad:rep x (cL.least:Int) _),rfl⟩
    refine hK _ _ ?_
    obtain⟨gO,kD,g⟩:=Ao g
    obtain⟨bf,dj⟩:=Bj kD
    refine wl fun K hK=>?_
    refine AS 0 8 1 _ (gO.length) _ ([.int .i64 cL.least]:Ye) cl br rfl rfl (by decide) rfl (by rfl) (by kernel_rfl) (by rfl) (by rfl) (Ae.len a1) (br.rowCell (i:=1) rfl) a1.one (by rw [bf]; simp <;> omega) (by rw [bf]; exact dj) (by decide) fun al ao b0 d4 fb cb (cn:Kn _ (UR k l m aA p) ((tS 58 al gO.length ao)::(tS 57 bl 1 1)::(tI 56 cL.least)::(tS 55 d aB.length e)::(tI 6 aA)::(GD aQ words aR)) _) a9=>?_
    have b5:Ae x gO (aa++([.int .i64 cL.least]:Ye)):=by rw [bf]; exact Ae.append ag a1
    obtain rfl:b0=0:=Nat.le_zero.1 cb
    refine hK _ _ ?_
    refine Rk 4 1 ((tS 5 al gO.length ao)::(tI 6 aA)::(GD aQ words aR)) cn a9 fun ep co=>?_
    refine wf (Aa (Rk 0 3 ((tI 6 (IntKind.i64.wrap (aA+1)))::(tS 5 al gO.length ao)::(GD aQ words aR)) co a9 fun er cp=>?_))
    refine wf ?_
    exact XY aj ⟨Y4 _,XY gO ⟨IntKind.i64.wrap (aA+1),al,ao,aa++([.int .i64 cL.least]:Ye),_,_,rfl,(cp.keep [6,5,2,1] (by rfl)).cut 1 (by kernel_rfl),(a9.cutRw 1).cutPl 1 (by kernel_rfl),XU af au,b5,g⟩⟩
   rw [ax,XV] at g
   refine XT (Aa (Rk 0 2 ((tB 51 ((Int.tmod f 3) == 1))::(Wc cL f aA d aB e aQ words aR)) a5 q fun es a6=>?_))
   refine wf (wC (((Int.tmod f 3) == 1)) a6 (fun ay=>?_) (fun ay=>?_))
   ·
    rw [ay,XW] at g
    refine Aa (Rk 0 3 ((tI 9 cL.most)::(Fw aA d aB e aQ words aR)) a6 q fun eu cq=>?_)
    refine wf (Aa (Rk 0 2 ((tI 56 cL.most)::(tS 55 d aB.length e)::(tI 6 aA)::(GD aQ words aR)) cq q fun ev cr=>?_))
    refine wl fun K hK=>?_
    refine wS 3 1 [XR cL.most] cr q fun bm d5 fc (ct:Kn _ (UR k l m aA p) ((tS 57 bm 1 1)::(tI 56 cL.most)::(tS 55 d aB.length e)::(tI 6 aA)::(GD aQ words aR)) _) bs=>?_
    have a2:Ae x ([cL.most]:List Int) ([.int .i64 cL.most]:Ye):=⟨_,_,rfl,(Ad:rep x (cL.most:Int) _),rfl⟩
    refine hK _ _ ?_
    obtain⟨gO,kD,g⟩:=Ao g
    obtain⟨bg,dk⟩:=Bj kD
    refine wl fun K hK=>?_
    refine AS 0 8 1 _ (gO.length) _ ([.int .i64 cL.most]:Ye) ct bs rfl rfl (by decide) rfl (by rfl) (by kernel_rfl) (by rfl) (by rfl) (Ae.len a2) (bs.rowCell (i:=1) rfl) a2.one (by rw [bg]; simp <;> omega) (by rw [bg]; exact dk) (by decide) fun am ap b1 d6 fd cc (cv:Kn _ (UR k l m aA p) ((tS 58 am gO.length ap)::(tS 57 bm 1 1)::(tI 56 cL.most)::(tS 55 d aB.length e)::(tI 6 aA)::(GD aQ words aR)) _) ba=>?_
    have b6:Ae x gO (aa++([.int .i64 cL.most]:Ye)):=by rw [bg]; exact Ae.append ag a2
    obtain rfl:b1=0:=Nat.le_zero.1 cc
    refine hK _ _ ?_
    refine Rk 4 1 ((tS 5 am gO.length ap)::(tI 6 aA)::(GD aQ words aR)) cv ba fun ex cw=>?_
    refine wf (Aa (Rk 0 3 ((tI 6 (IntKind.i64.wrap (aA+1)))::(tS 5 am gO.length ap)::(GD aQ words aR)) cw ba fun ey cx=>?_))
    refine wf ?_
    exact XY aj ⟨Y4 _,XY gO ⟨IntKind.i64.wrap (aA+1),am,ap,aa++([.int .i64 cL.most]:Ye),_,_,rfl,(cx.keep [6,5,2,1] (by rfl)).cut 1 (by kernel_rfl),(ba.cutRw 1).cutPl 1 (by kernel_rfl),XU af au,b6,g⟩⟩
   rw [ay,XV] at g
   refine wp_skip (Aa (Rk 0 2 (Wb cL f d aB e aA aQ words aR) a6 q fun ez cy=>?_))
   refine wl fun K hK=>?_
   refine wS 3 1 [XR (IntKind.i64.wrap (cL.least+(Int.tmod (IntKind.i64.wrap (Int.tdiv f 3)) (IntKind.i64.wrap ((IntKind.i64.wrap (cL.most-cL.least))+1)))))] cy q fun bn d7 fe (c0:Kn _ (UR k l m aA p) ((tS 57 bn 1 1)::(Wb cL f d aB e aA aQ words aR)) _) bt=>?_
   have a3:Ae x ([IntKind.i64.wrap (cL.least+(Int.tmod (IntKind.i64.wrap (Int.tdiv f 3)) (IntKind.i64.wrap ((IntKind.i64.wrap (cL.most-cL.least))+1))))]:List Int) ([.int .i64 (IntKind.i64.wrap (cL.least+(Int.tmod (IntKind.i64.wrap (Int.tdiv f 3)) (IntKind.i64.wrap ((IntKind.i64.wrap (cL.most-cL.least))+1)))))]:Ye):=⟨_,_,rfl,(Ad:rep x (IntKind.i64.wrap (cL.least+(Int.tmod (IntKind.i64.wrap (Int.tdiv f 3)) (IntKind.i64.wrap ((IntKind.i64.wrap (cL.most-cL.least))+1)))):Int) _),rfl⟩
   refine hK _ _ ?_
   obtain⟨gO,kD,g⟩:=Ao g
   obtain⟨bh,dl⟩:=Bj kD
   refine wl fun K hK=>?_
   refine AS 0 8 1 _ (gO.length) _ ([.int .i64 (IntKind.i64.wrap (cL.least+(Int.tmod (IntKind.i64.wrap (Int.tdiv f 3)) (IntKind.i64.wrap ((IntKind.i64.wrap (cL.most-cL.least))+1)))))]:Ye) c0 bt rfl rfl (by decide) rfl (by rfl) (by kernel_rfl) (by rfl) (by rfl) (Ae.len a3) (bt.rowCell (i:=1) rfl) a3.one (by rw [bh]; simp <;> omega) (by rw [bh]; exact dl) (by decide) fun an aq b2 d8 ff cd (c1:Kn _ (UR k l m aA p) ((tS 58 an gO.length aq)::(tS 57 bn 1 1)::(Wb cL f d aB e aA aQ words aR)) _) bb=>?_
   have b7:Ae x gO (aa++([.int .i64 (IntKind.i64.wrap (cL.least+(Int.tmod (IntKind.i64.wrap (Int.tdiv f 3)) (IntKind.i64.wrap ((IntKind.i64.wrap (cL.most-cL.least))+1)))))]:Ye)):=by rw [bh]; exact Ae.append ag a3
   obtain rfl:b2=0:=Nat.le_zero.1 cd
   refine hK _ _ ?_
   refine Rk 4 1 ((tS 5 an gO.length aq)::(tI 6 aA)::(GD aQ words aR)) c1 bb fun e0 c2=>?_
   refine wf (Aa (Rk 0 3 ((tI 6 (IntKind.i64.wrap (aA+1)))::(tS 5 an gO.length aq)::(GD aQ words aR)) c2 bb fun e1 c3=>?_))
   refine wf ?_
   exact XY aj ⟨Y4 _,XY gO ⟨IntKind.i64.wrap (aA+1),an,aq,aa++([.int .i64 (IntKind.i64.wrap (cL.least+(Int.tmod (IntKind.i64.wrap (Int.tdiv f 3)) (IntKind.i64.wrap ((IntKind.i64.wrap (cL.most-cL.least))+1)))))]:Ye),_,_,rfl,(c3.keep [6,5,2,1] (by rfl)).cut 1 (by kernel_rfl),(bb.cutRw 1).cutPl 1 (by kernel_rfl),XU af au,b7,g⟩⟩
  rw [az,XV] at g
  refine wp_exit ?_
  obtain rfl:=XZ g
  exact XY d ⟨e,aa,_,_,rfl,a7.kp,aw,af,ag⟩
 rintro _ ed ⟨ad,ae,ak,bi,ar,rfl,c4,bc,eh,a4⟩
 refine XT (Aa (Rk 0 2 [tS 4 ad ac.length ae] c4 bc fun e2 c5=>?_))
 refine wf (wp_ret ?_)
 obtain⟨bq,dm,dw,bd⟩:=bc.settle (i:=0) rfl
 replace a4:=a4.mono dm
 replace bd:Ai _ _ [(k,0)] [⟨NW t_ y z s u,some 25⟩] [⟨ad,ac.length,ae,3,1,ak,_⟩] _:=bd
 have dv:At bq ad ae ac:=⟨_,a4,dw,bc.rowCap (i:=0) rfl⟩
 obtain rfl:=XZ H
 exact rt (.one (.c (Yb ad ac.length ae))) c5 bd ⟨_,_,rfl,dv⟩
abbrev P7 (dZ:AH)(eT:Int):=([XR (IntKind.i64.wrap (dZ.start+eT))]:List SC)
abbrev Hr (aa)(cO:Am×Bool)(ac ab ad):=([Yb aa cO.1.room.length ac,Yb ab cO.1.lG.length ad,XR cO.1.broken]:List SC)
abbrev FH (f g af)(ah:Nat)(aC:Int)(ai)(aj:Nat)(ak)(al:Nat)(eB:List Int)(am)(an:Nat)(dK:Int)(ao)(ap:Nat):=([(f,0),(g,0),(af,ah+Yc aC*1),(ai,aj+Yc aC*1),(ak,al+(IntKind.i64.wrap (((eB.length:Nat):Int)-1):Int).toNat*1),(am,an+Yc dK*6),(ao,ap+Yc dK*1)]:AJ)
abbrev Xb (f g af)(ah:Nat)(aC:Int)(ai)(aj:Nat)(ak)(al:Nat)(eB:List Int)(am)(an:Nat)(dK:Int)(ao)(ap:Nat)(a8)(aF:Int)(a9 bc bk):=([(f,0),(g,0),(af,ah+Yc aC*1),(ai,aj+Yc aC*1),(ak,al+(IntKind.i64.wrap (((eB.length:Nat):Int)-1):Int).toNat*1),(am,an+Yc dK*6),(ao,ap+Yc dK*1),(a8,0+(IntKind.i64.wrap (aF-1):Int).toNat*1),(a9,0+Yc aF*1),(bc,0+Yc aF*1),(bk,0+(IntKind.i64.wrap (aF-1):Int).toNat*1)]:AJ)
abbrev Xc (f g af)(ah:Nat)(aC:Int)(ai)(aj:Nat)(ak)(al:Nat)(eB:List Int)(am)(an:Nat)(dK:Int)(ao)(ap:Nat)(a8)(aF:Int)(a9 bc bk bu b4 ce):=([(f,0),(g,0),(af,ah+Yc aC*1),(ai,aj+Yc aC*1),(ak,al+(IntKind.i64.wrap (((eB.length:Nat):Int)-1):Int).toNat*1),(am,an+Yc dK*6),(ao,ap+Yc dK*1),(a8,0+(IntKind.i64.wrap (aF-1):Int).toNat*1),(a9,0+Yc aF*1),(bc,0+Yc aF*1),(bk,0+(IntKind.i64.wrap (aF-1):Int).toNat*1),(bu,0+(IntKind.i64.wrap (aF-1):Int).toNat*1),(b4,0+Yc aF*1),(ce,0+Yc aF*1)]:AJ)
abbrev XG (f g af)(ah:Nat)(aC:Int)(ai)(aj:Nat)(ak)(al:Nat)(eB:List Int)(am)(an:Nat)(dK:Int)(ao)(ap:Nat)(a8)(aF:Int)(a9 bc bk bu b4 ce d2):=([(f,0),(g,0),(af,ah+Yc aC*1),(ai,aj+Yc aC*1),(ak,al+(IntKind.i64.wrap (((eB.length:Nat):Int)-1):Int).toNat*1),(am,an+Yc dK*6),(ao,ap+Yc dK*1),(a8,0+(IntKind.i64.wrap (aF-1):Int).toNat*1),(a9,0+Yc aF*1),(bc,0+Yc aF*1),(bk,0+(IntKind.i64.wrap (aF-1):Int).toNat*1),(bu,0+(IntKind.i64.wrap (aF-1):Int).toNat*1),(b4,0+Yc aF*1),(ce,0+Yc aF*1),(d2,0+(IntKind.i64.wrap (aF-1):Int).toNat*1)]:AJ)
abbrev JJ (t_:An)(p q l m):=([⟨NW t_ p q l m,some 25⟩,⟨JC,some 41⟩]:List C0)
abbrev Gy (t_:An)(p q l m aa)(cO:Am×Bool)(ac ab ad):=([⟨NW t_ p q l m,some 25⟩,⟨Hr aa cO ac ab ad,some 41⟩]:List C0)
abbrev Ig (t_:An)(p q l m aa)(cO:Am×Bool)(ac ab ad a6)(eZ:List Int)(a7 bf)(eB:List Int)(bg dK)(dZ:AH)(eT):=([⟨NW t_ p q l m,some 25⟩,⟨Hr aa cO ac ab ad,some 41⟩,⟨[Yb a6 eZ.length a7],none⟩,⟨[Yb bf eB.length bg],none⟩,⟨[XR dK],none⟩,⟨VU dZ,none⟩,⟨[XR eT],none⟩]:List C0)
abbrev CX (s)(eG:List Int)(u a)(cD:(List (List Int))×Int)(d):=([tS 11 s eG.length u,tP 9 1 0,tS 7 a cD.1.length d,tP 3 0 0]:TM)
abbrev GE (cZ:(List Int)×Int×Int)(bb be ar)(z:((List Int)×(List Int)))(au a)(cD:(List (List Int))×Int)(d):=([tI 18 cZ.2.1,tS 17 bb cZ.1.length be,tS 12 ar z.1.length au,tP 9 1 0,tS 7 a cD.1.length d]:TM)
abbrev Fc (aO)(room:List Int)(aP aQ)(words:List (IK .u16))(aR):=([tP 3 0 0,tS 1 aO room.length aP,tS 2 aQ words.length aR]:TM)
abbrev GF (aF ae)(aE:List Int)(ag x)(aD:List Int)(y aC s)(eG:List Int)(u a)(cD:(List (List Int))×Int)(d):=((tI 16 aF)::(tS 13 ae aE.length ag)::(tS 12 x aD.length y)::(tI 14 aC)::(CX s eG u a cD d):TM)
abbrev Q8 (aF:Int)(ae)(aE:List Int)(ag x)(bj:List Int)(y aC s)(eG:List Int)(u a)(cD:(List (List Int))×Int)(d):=((tI 134 (IntKind.i64.wrap (aF-1)))::(tS 132 ae aE.length ag)::(tI 131 aF)::(tS 130 ae aE.length ag)::(tI 16 aF)::(tS 13 ae aE.length ag)::(tS 12 x bj.length y)::(tI 14 aC)::(CX s eG u a cD d):TM)
abbrev H6 (a)(cD:(List (List Int))×Int)(d aQ)(words:List (IK .u16))(aR):=([tS 7 a cD.1.length d,tP 3 0 0,tS 2 aQ words.length aR]:TM)
theorem Nc (n:Nat) {h:Ac} {w:World} (hh:CK h w) (t_:An) {cN:Ye} (dL:rep h t_ cN) (room:List Int) {aO:Yd} {aP:Nat} (eE:At h aO aP room) (words:List (IK .u16)) {aQ:Yd} {aR:Nat} (eA:At h aQ aR words) {r:Bool} (H:Ge n t_ room words=some r) :
  Calls Tryz.prog 3 #[.agg cN.toArray,.slice aO room.length aP,.slice aQ words.length aR] w (CP (fun h v=>v=.bool r) h w):=by
 obtain⟨_,_,rfl,rfl,⟨_,_,rfl,rfl,⟨_,_,rfl,⟨p,q,rfl,a0⟩,⟨l,m,rfl,ax⟩⟩⟩⟩:=dL
 refine enter 208 [.agg (NW t_ p q l m),.c (Yb aO room.length aP),.c (Yb aQ words.length aR)] Tryz.func3 rfl rfl rfl rfl fun t hk=>?_
 have hm:=Ai.begin h w hh
 unfold Ge at H
 refine XT (Aa (wl fun K hK=>?_))
 refine wb (.agg (NW t_ p q l m)) hk hm fun f xx ac5 (p3:Kn _ [(f,0)] [tP 3 0 0,tA 0 (NW t_ p q l m),tS 1 aO room.length aP,tS 2 aQ words.length aR] _) g5=>hK _ _ ?_
 refine Rk 1 1 (Fc aO room aP aQ words aR) p3 g5 fun z8 qa=>?_
 refine wf (XT (XT ?_))
 obtain⟨jn,du,H⟩:=Ao H
 refine Ar (fun a' w'=>∃ (jp:Array Value)(gi:Ac),a' = ⟨jp,[]⟩∧Kn 208 [(f,0)] [tP 3 0 0,tS 1 aO room.length aP,tS 2 aQ words.length aR,tB 31 jn] jp∧Ai ⟨w,h,BF⟩ gi [(f,0)] [⟨NW t_ p q l m,some 25⟩] [] w'∧Ac.le h gi) ?_ ?_
 ·
  refine Aa (Rk 0 1 ((tA 24 (NW t_ p q l m))::(Fc aO room aP aQ words aR)) qa g5 fun aad qk=>?_)
  obtain⟨eC,iD,du⟩:=Ao du
  refine wl fun K hK=>?_
  refine wc [.agg (NW t_ p q l m)] qk g5 (Rs n g5.has t_ ((Ab Ad (Ab Ad (Ab (Af a0) (Af ax)))):rep h t_ _) iD) fun ab0 ol acm n1 ew ez=>?_
  replace a0:=a0.mono ew
  replace ax:=ax.mono ew
  obtain rfl:=n1
  refine⟨.one (.c (.bool eC)),rfl,fun w6 (qs:Kn _ [(f,0)] ((tB 25 eC)::(tA 24 (NW t_ p q l m))::(Fc aO room aP aQ words aR)) _)=>hK _ _ ?_⟩
  refine Rk 2 2 ((tB 27 (!eC))::(Fc aO room aP aQ words aR)) qs ez fun m0 kn=>?_
  rcases Y2 ((!eC)) with fi | fi
  ·
   rw [fi,XW] at du
   have q0:Kn _ _ ((tB 27 true)::(Fc aO room aP aQ words aR)) _:=(kn.setB 27 true (by rfl) fi).kp
   refine Rk 4 4 ((tB 31 true)::(Fc aO room aP aQ words aR)) q0 ez fun aap q1=>?_
   refine wf ?_
   obtain rfl:=XZ du
   exact XY _ ⟨_,rfl,q1.kp,ez,ew⟩
  rw [fi,XV] at du
  have q2:Kn _ _ ((tB 27 false)::(Fc aO room aP aQ words aR)) _:=(kn.setB 27 false (by rfl) fi).kp
  refine Rk 4 1 ((tA 28 (NW t_ p q l m))::(tB 27 false)::(Fc aO room aP aQ words aR)) q2 ez fun aaq ko=>?_
  obtain⟨gN,iQ,du⟩:=Ao du
  refine AD _ rfl (Al ko (by kernel_rfl)) fun K hK=>?_
  refine wc [.agg (NW t_ p q l m)] ko ez (PM n ez.has t_ ((Ab Ad (Ab Ad (Ab (Af a0) (Af ax)))):rep ol t_ _) iQ) fun ab1 zd acp n2 ui k9=>?_
  obtain rfl:=n2
  refine⟨.one (.c (XR gN)),rfl,fun xf (rf:Kn _ [(f,0)] ((tI 29 gN)::(tA 28 (NW t_ p q l m))::(tB 27 false)::(Fc aO room aP aQ words aR)) _)=>hK _ _ ?_⟩
  refine Rk 6 2 ((tB 31 (gN != 0))::(Fc aO room aP aQ words aR)) rf k9 fun aay ri=>?_
  refine wf ?_
  obtain rfl:=XZ du
  exact XY _ ⟨_,rfl,ri.kp,k9,XU ew ui⟩
 rintro _ acr ⟨jp,gi,rfl,il,f1,g1⟩
 replace a0:=a0.mono g1
 replace ax:=ax.mono g1
 replace eE:=eE.mono g1
 replace eA:=eA.mono g1
 refine wC (jn) il (fun ib=>?_) (fun ib=>?_)
 ·
  rw [Ba ib] at H
  refine XT (Aa ?_)
  obtain⟨jL,kT,H⟩:=Ao H
  refine wl fun K hK=>?_
  refine wc [] il f1 (GM n f1.has  kT) fun ab2 ze acs n3 zo la=>?_
  obtain rfl:=n3
  refine⟨.one (.c (.bool jL)),rfl,fun xk (r4:Kn _ [(f,0)] [tB 32 jL,tP 3 0 0,tS 1 aO room.length aP,tS 2 aQ words.length aR,tB 31 jn] _)=>hK _ _ ?_⟩
  refine Rk 1 1 [tB 6 jL] r4 la fun aa5 sa=>?_
  refine wf (wp_ret ?_)
  obtain rfl:=XZ H
  exact rt (.one (.c (.bool jL))) sa la rfl
 rw [Bb ib] at H
 refine wp_skip (XT (Aa (Rk 0 1 ((tA 34 (NW t_ p q l m))::(Fc aO room aP aQ words aR)) il f1 fun aa6 sb=>?_)))
 obtain⟨dC,kC,H⟩:=Ao H
 refine wl fun K hK=>?_
 refine wc [.agg (NW t_ p q l m)] sb f1 (PP n f1.has t_ ((Ab Ad (Ab Ad (Ab (Af a0) (Af ax)))):rep gi t_ _) kC) fun ab3 op acy n6 g2 li=>?_
 obtain⟨_,rfl,⟨_,_,rfl,rfl,⟨_,_,rfl,rfl,⟨_,_,rfl,⟨ef,ei,rfl,ve⟩,⟨eg,ej,rfl,vf⟩⟩⟩⟩⟩:=n6
 refine⟨.one (.agg (NW dC ef ei eg ej)),rfl,fun xu (sx:Kn _ [(f,0)] ((tA 35 (NW dC ef ei eg ej))::(tA 34 (NW t_ p q l m))::(Fc aO room aP aQ words aR)) _)=>hK _ _ ?_⟩
 obtain⟨cD,jZ,H⟩:=Ao H
 refine wl fun K hK=>?_
 refine wc [.agg (NW dC ef ei eg ej)] sx li (P2 n li.has dC ((Ab Ad (Ab Ad (Ab (Af ve) (Af vf)))):rep op dC _) jZ) fun aca j9 ac2 oc g3 eb=>?_
 replace a0:=a0.mono (XU g2 g3)
 replace ax:=ax.mono (XU g2 g3)
 replace eE:=eE.mono (XU g2 g3)
 replace eA:=eA.mono (XU g2 g3)
 obtain⟨_,_,rfl,⟨a,d,rfl,bi⟩,rfl⟩:=oc
 refine⟨.tup [.c (Yb a cD.1.length d),.c (XR cD.2)],rfl,fun x2 (ta:Kn _ [(f,0)] ((36,.tup [.c (Yb a cD.1.length d),.c (XR cD.2)])::(tA 35 (NW dC ef ei eg ej))::(tA 34 (NW t_ p q l m))::(Fc aO room aP aQ words aR)) _)=>hK _ _ ?_⟩
 refine Rk 3 5 ((tI 8 cD.2)::(tS 7 a cD.1.length d)::(Fc aO room aP aQ words aR)) ta eb fun abn tf=>?_
 refine wf (XT (XT ?_))
 obtain⟨mz,em,H⟩:=Ao H
 refine Ar (fun a' w'=>∃ (jy:Array Value)(cr:Ac),a' = ⟨jy,[]⟩∧Kn 208 [(f,0)] [tS 7 a cD.1.length d,tP 3 0 0,tS 1 aO room.length aP,tS 2 aQ words.length aR,tB 46 mz] jy∧Ai ⟨w,h,BF⟩ cr [(f,0)] [⟨NW t_ p q l m,some 25⟩] [] w'∧Ac.le j9 cr) ?_ ?_
 ·
  refine Aa (Rk 0 3 ((tB 41 (cD.2 != 0))::(tS 7 a cD.1.length d)::(Fc aO room aP aQ words aR)) tf eb fun na k0=>?_)
  rcases Y2 ((cD.2 != 0)) with fp | fp
  ·
   rw [fp,XW] at em
   have tv:Kn _ _ ((tB 41 true)::(tS 7 a cD.1.length d)::(Fc aO room aP aQ words aR)) _:=(k0.setB 41 true (by rfl) fp).kp
   refine Rk 3 5 ((tB 46 true)::(tS 7 a cD.1.length d)::(Fc aO room aP aQ words aR)) tv eb fun abv tw=>?_
   refine wf ?_
   obtain rfl:=XZ em
   exact XY _ ⟨_,rfl,tw.kp,eb,Ac.le_refl _⟩
  rw [fp,XV] at em
  have tz:Kn _ _ ((tB 41 false)::(tS 7 a cD.1.length d)::(Fc aO room aP aQ words aR)) _:=(k0.setB 41 false (by rfl) fp).kp
  refine Rk 3 2 ((tS 43 a cD.1.length d)::(tA 42 (NW t_ p q l m))::(tB 41 false)::(tS 7 a cD.1.length d)::(Fc aO room aP aQ words aR)) tz eb fun z5 kl=>?_
  obtain⟨dW,jI,em⟩:=Ao em
  refine AD _ rfl (Al kl (by kernel_rfl)) fun K hK=>?_
  refine wc [.agg (NW t_ p q l m),.c (Yb a cD.1.length d)] kl eb (My n eb.has t_ ((Ab Ad (Ab Ad (Ab (Af a0) (Af ax)))):rep j9 t_ _) cD.1 bi jI) fun abx zb aci ny uh k6=>?_
  obtain rfl:=ny
  refine⟨.one (.c (.bool dW)),rfl,fun w1 (p6:Kn _ [(f,0)] ((tB 44 dW)::(tS 43 a cD.1.length d)::(tA 42 (NW t_ p q l m))::(tB 41 false)::(tS 7 a cD.1.length d)::(Fc aO room aP aQ words aR)) _)=>hK _ _ ?_⟩
  refine Rk 6 2 ((tB 46 (!dW))::(tS 7 a cD.1.length d)::(Fc aO room aP aQ words aR)) p6 k6 fun z6 p7=>?_
  refine wf ?_
  obtain rfl:=XZ em
  exact XY _ ⟨_,rfl,p7.kp,k6,uh⟩
 rintro _ yb ⟨jy,cr,rfl,ih,ey,fy⟩
 replace a0:=a0.mono fy
 replace ax:=ax.mono fy
 replace eE:=eE.mono fy
 replace eA:=eA.mono fy
 replace bi:=bi.mono fy
 refine wC (mz) ih (fun h7=>?_) (fun h7=>?_)
 ·
  rw [Ba h7] at H
  refine XT (Aa (Rk 0 1 [tB 6 false] ih ey fun z7 p8=>?_))
  refine wf (wp_ret ?_)
  obtain rfl:=XZ H
  exact rt (.one (.c (.bool false))) p8 ey rfl
 rw [Bb h7] at H
 refine wp_skip (XT (Au (by kernel_rfl) ?_))
 replace ey:=ey.drew
 refine Ax [] [(f,0)] [⟨NW t_ p q l m,some 25⟩] ?_
 refine Dr [0,1,2] [2,1,0] ((tS 50 aO room.length aP)::(tS 49 a cD.1.length d)::(tA 48 (NW t_ p q l m))::(H6 a cD d aQ words aR)) ih ey fun w2 p9=>?_
 obtain⟨cG,hG,H⟩:=Ao H
 obtain⟨cO,jO,H⟩:=Ao H
 have ul:Ai _ _ [(f,0)] [⟨NW t_ p q l m,some 25⟩] [⟨none,0,0,3,1,[],0⟩] _:=ey.nilRow 3 1
 have kh:Ae cr ([]:List Int) []:=Ae.nil
 have km:Kn _ [(f,0),(0,0)] ((tS 50 aO room.length aP)::(tS 49 a cD.1.length d)::(tA 48 (NW t_ p q l m))::(H6 a cD d aQ words aR)) _:=p9.push (0,0) (by kernel_rfl)
 have iw:=ul.addPlc (b:=0) (o:=0) (cs:=[]) (fun j c hj=>by simp at hj) rfl (by kernel_rfl) (by kernel_rfl)
 refine BZ (e':=[(f,0),(0,0)]) (pl':=[⟨NW t_ p q l m,some 25⟩,⟨[],none⟩]) (fun _ hp=>hp.pop (Y8 rfl) (by kernel_rfl)) ?_
 refine BT (fun W=>∀ (g:Nat),∀ (a2:Yd),∀ (a3:Nat),∀ (a1:Ye),∀ (a4:Nat),∀ (aa:Yd),∀ (ac:Nat),∀ (ab:Yd),∀ (ad:Nat),∀ a' w',(∃ (jo:Array Value)(d5:Ac),a' = ⟨jo,[]⟩∧Kn 208 [(f,0),(g,0)] ((tP 9 1 0)::(tB 54 cO.2)::(tA 53 (Hr aa cO ac ab ad))::(H6 a cD d aQ words aR)) jo∧Ai ⟨w,h,BF⟩ d5 [(f,0),(g,0)] (JJ t_ p q l m) [⟨a2,cG.length,a3,3,1,a1,a4⟩] w'∧Ac.le cr d5∧Ae d5 cG a1∧At d5 aa ac cO.1.room∧At d5 ab ad cO.1.lG)→W [(f,0),(g,0)] (JJ t_ p q l m) [7,6,5,4,3,8,2,1,0] a' w') ?_ (fun mv=>?_)
 ·
  intro g a2 a3 a1 a4 aa ac ab ad
  rintro _ acj ⟨jo,d5,rfl,qb,um,gz,ck,bl,bm⟩
  replace a0:=a0.mono gz
  replace ax:=ax.mono gz
  replace eA:=eA.mono gz
  replace bi:=bi.mono gz
  refine CU 9 rfl (by kernel_rfl) (by decide) (rfl) (by kernel_rfl) fun K hK=>?_
  refine DT 1 0 (.agg (Hr aa cO ac ab ad)) (Hr aa cO ac ab ad) qb um fun ack qc d8=>hK _ _ ?_
  refine Ax [] [(f,0),(g,0)] (Gy t_ p q l m aa cO ac ab ad) ?_
  refine Dr [10] [10,9,7,6,5,4,3,8,2,1,0] ((tB 10 cO.2)::(tP 9 1 0)::(H6 a cD d aQ words aR)) qc d8 fun z9 qd=>?_
  refine AL (by kernel_rfl) (XT (XT (Aa (Rk 0 2 ((tB 56 (!cO.2))::(tP 9 1 0)::(H6 a cD d aQ words aR)) qd d8 fun aaa ii=>?_))))
  refine wf (wC ((!cO.2)) ii (fun h8=>?_) (fun h8=>?_))
  ·
   rw [h8,XW] at H
   refine XT (Aa ?_)
   obtain⟨gA,jG,H⟩:=Ao H
   refine wl fun K hK=>?_
   refine wc [] ii d8 (GM n d8.has  jG) fun aby zc acl nz zn k7=>?_
   obtain rfl:=nz
   refine⟨.one (.c (.bool gA)),rfl,fun w3 (qe:Kn _ [(f,0),(g,0)] ((tB 57 gA)::(tB 56 (!cO.2))::(tP 9 1 0)::(H6 a cD d aQ words aR)) _)=>hK _ _ ?_⟩
   refine Rk 1 1 [tB 6 gA] qe k7 fun aab qf=>?_
   refine wf (wp_ret ?_)
   obtain rfl:=XZ H
   exact rt (.one (.c (.bool gA))) qf k7 rfl
  rw [h8,XV] at H
  refine wp_skip (XT (Aa (Rk 0 2 [tS 59 aQ words.length aR,tA 58 (NW t_ p q l m),tP 9 1 0,tS 7 a cD.1.length d,tP 3 0 0] ii d8 fun aac qg=>?_)))
  obtain⟨eG,ex60,H⟩:=Ao H
  refine wl fun K hK=>?_
  refine wc [.agg (NW t_ p q l m),.c (Yb aQ words.length aR)] qg d8 (P6 n d8.has t_ ((Ab Ad (Ab Ad (Ab (Af a0) (Af ax)))):rep d5 t_ _) words eA ex60) fun abz en nb n0 ev g6=>?_
  replace ax:=ax.mono ev
  replace bi:=bi.mono ev
  replace bl:=bl.mono ev
  replace bm:=bm.mono ev
  obtain⟨s,u,rfl,ec⟩:=n0
  refine⟨.one (.c (Yb s eG.length u)),rfl,fun w4 (qh:Kn _ [(f,0),(g,0)] [tS 60 s eG.length u,tS 59 aQ words.length aR,tA 58 (NW t_ p q l m),tP 9 1 0,tS 7 a cD.1.length d,tP 3 0 0] _)=>hK _ _ ?_⟩
  refine Rk 3 1 (CX s eG u a cD d) qh g6 fun aae qi=>?_
  refine wf (XT (Aa (Rk 0 2 ((tS 13 none 0 0)::(tS 12 none 0 0)::(CX s eG u a cD d)) qi g6 fun aaf qj=>?_)))
  refine wf (XT (XT (Aa (Rk 0 1 ((tI 14 0)::(tS 13 none 0 0)::(tS 12 none 0 0)::(CX s eG u a cD d)) qj g6 fun aag ql=>?_))))
  refine wf ?_
  have un:Ai _ _ [(f,0),(g,0)] (Gy t_ p q l m aa cO ac ab ad) [⟨a2,cG.length,a3,3,1,a1,a4⟩,⟨none,0,0,3,1,[],0⟩] _:=g6.nilRow 3 1
  have o0:Ae en ([]:List Int) []:=Ae.nil
  have uo:Ai _ _ [(f,0),(g,0)] (Gy t_ p q l m aa cO ac ab ad) [⟨a2,cG.length,a3,3,1,a1,a4⟩,⟨none,0,0,3,1,[],0⟩,⟨none,0,0,3,1,[],0⟩] _:=un.nilRow 3 1
  have o1:Ae en ([]:List Int) []:=Ae.nil
  obtain⟨z,j6,H⟩:=Ao H
  refine Ar (fun a' w'=>∃ (ar:Yd)(au:Nat)(aq:Ye)(cc:Yd)(cf:Nat)(cb:Ye)(jq:Array Value)(eo:Ac),a' = ⟨jq,[]⟩∧Kn 208 [(f,0),(g,0)] [tS 12 ar z.1.length au,tP 9 1 0,tS 7 a cD.1.length d] jq∧Ai ⟨w,h,BF⟩ eo [(f,0),(g,0)] (Gy t_ p q l m aa cO ac ab ad) [⟨a2,cG.length,a3,3,1,a1,a4⟩,⟨ar,z.1.length,au,3,1,aq,0⟩,⟨cc,z.2.length,cf,3,1,cb,0⟩] w'∧Ac.le en eo∧Ae eo z.1 aq∧Ae eo z.2 cb) ?_ ?_
  ·
   refine wp_block ?_
   refine Av (fun wx a' w'=>∃ (aB:List Int)(aA:List Int)(aC:Int)(ba:Yd)(bd:Nat)(cn:Ye)(av:Yd)(aw:Nat)(ca:Ye)(jr:Array Value)(df:Ac),a' = ⟨jr,[]⟩∧Kn 208 [(f,0),(g,0)] ((tI 14 aC)::(tS 13 av aA.length aw)::(tS 12 ba aB.length bd)::(CX s eG u a cD d)) jr∧Ai ⟨w,h,BF⟩ df [(f,0),(g,0)] (Gy t_ p q l m aa cO ac ab ad) [⟨a2,cG.length,a3,3,1,a1,a4⟩,⟨ba,aB.length,bd,3,1,cn,0⟩,⟨av,aA.length,aw,3,1,ca,0⟩] w'∧Ac.le en df∧Ae df aB cn∧Ae df aA ca∧Cx wx t_ cD eG aB aA aC=some z) n ?_ ?_
   ·
    exact XY ([]:List Int) ⟨([]:List Int),0,none,0,[],none,0,[],_,_,rfl,ql.kp,uo,Ac.le_refl _,o0,o1,j6⟩
   rintro hr _ nc ⟨aB,aA,aC,ba,bd,cn,av,aw,ca,jr,df,rfl,qm,d9,dg,gm,gn,bh⟩
   clear j6
   obtain _ | hr:=hr
   ·
    rw [Cx] at bh; cases bh
   rw [Cx] at bh
   replace ax:=ax.mono dg
   replace bi:=bi.mono dg
   replace ec:=ec.mono dg
   refine XT (XT (Aa (Rk 0 4 ((tB 64 (decide (aC<((cD.1.length:Nat):Int))))::(tI 14 aC)::(tS 13 av aA.length aw)::(tS 12 ba aB.length bd)::(CX s eG u a cD d)) qm d9 fun aah ij=>?_)))
   refine wf (wC (decide (aC<((cD.1.length:Nat):Int))) ij (fun h9=>?_) (fun h9=>?_))
   ·
    rw [h9,XW] at bh
    refine wp_skip (XT (wp_block (XT (Au (by kernel_rfl) ?_))))
    replace d9:=d9.drew
    refine Ax [] [(f,0),(g,0)] (Gy t_ p q l m aa cO ac ab ad) ?_
    refine Dr [0,1] [1,0] ((tI 68 aC)::(tS 67 a cD.1.length d)::(tI 14 aC)::(tS 13 av aA.length aw)::(tS 12 ba aB.length bd)::(CX s eG u a cD d)) ij d9 fun aai qn=>?_
    obtain⟨eZ,jK,bh⟩:=Ao bh
    obtain⟨u2,u7,we⟩:=Aj jK
    obtain⟨af,ah,ys,ou,vx,o2⟩:=bi.get (by decide) we
    obtain⟨a6,a7,rfl,f2⟩:=vx
    have ix:=d9.addPlc (b:=af) (o:=ah+Yc aC*1) (cs:=[Yb a6 eZ.length a7]) (fun j c hj=>o2 j _ (Ak hj)) rfl (by kernel_rfl) (by kernel_rfl)
    refine A5 2 (aC) [Yb a6 eZ.length a7] (fun _ _ _ _ _ h=>h) rfl rfl (rfl) rfl (by decide) (by kernel_rfl) (by kernel_rfl) qn d9.plOk (by rfl) (by rfl) (by rfl) ou (by rfl) u2 u7 (by kernel_rfl) fun w5 (qo:Kn _ [(f,0),(g,0),(af,ah+Yc aC*1)] ((tP 69 2 0)::(tI 68 aC)::(tS 67 a cD.1.length d)::(tI 14 aC)::(tS 13 av aA.length aw)::(tS 12 ba aB.length bd)::(CX s eG u a cD d)) _)=>?_
    refine Dr [3,4,5] (dn 5) ((tI 72 aC)::(tS 71 a cD.1.length d)::(tS 70 a6 eZ.length a7)::(tI 14 aC)::(tS 13 av aA.length aw)::(tS 12 ba aB.length bd)::(CX s eG u a cD d)) qo ix fun aaj qp=>?_
    obtain⟨eB,ex73,bh⟩:=Ao bh
    obtain⟨u3,u8,wg⟩:=Aj ex73
    obtain⟨ai,aj,yt,ov,vy,o3⟩:=bi.get (by decide) wg
    obtain⟨bf,bg,rfl,hq⟩:=vy
    have iy:=ix.addPlc (b:=ai) (o:=aj+Yc aC*1) (cs:=[Yb bf eB.length bg]) (fun j c hj=>o3 j _ (Ak hj)) rfl (by kernel_rfl) (by kernel_rfl)
    refine A5 6 (aC) [Yb bf eB.length bg] (fun _ _ _ _ _ h=>h) rfl rfl (rfl) rfl (by decide) (by kernel_rfl) (by kernel_rfl) qp ix.plOk (by rfl) (by rfl) (by rfl) ov (by rfl) u3 u8 (by kernel_rfl) fun w7 (qq:Kn _ [(f,0),(g,0),(af,ah+Yc aC*1),(ai,aj+Yc aC*1)] ((tP 73 3 0)::(tI 72 aC)::(tS 71 a cD.1.length d)::(tS 70 a6 eZ.length a7)::(tI 14 aC)::(tS 13 av aA.length aw)::(tS 12 ba aB.length bd)::(CX s eG u a cD d)) _)=>?_
    refine Dr [7,8,9] (dn 9) ((tI 76 (IntKind.i64.wrap (((eB.length:Nat):Int)-1)))::(tS 70 a6 eZ.length a7)::(tI 14 aC)::(tS 13 av aA.length aw)::(tS 12 ba aB.length bd)::(CX s eG u a cD d)) qq iy fun aak qr=>?_
    obtain⟨dK,ex77,bh⟩:=Ao bh
    obtain⟨u4,u9,wh⟩:=Aj ex77
    obtain⟨ak,al,yu,ow,vz,o4⟩:=f2.get (by decide) wh
    obtain rfl:=vz
    have e0:=iy.addPlc (b:=ak) (o:=al+(IntKind.i64.wrap (((eB.length:Nat):Int)-1):Int).toNat*1) (cs:=[XR dK]) (fun j c hj=>o4 j _ (Ak hj)) rfl (by kernel_rfl) (by kernel_rfl)
    refine A5 10 (IntKind.i64.wrap (((eB.length:Nat):Int)-1)) [XR dK] (fun _ _ _ _ _ h=>h) rfl rfl (rfl) rfl (by decide) (by kernel_rfl) (by kernel_rfl) qr iy.plOk (by rfl) (by rfl) (by rfl) ow (by rfl) u4 u9 (by kernel_rfl) fun w8 (qt:Kn _ [(f,0),(g,0),(af,ah+Yc aC*1),(ai,aj+Yc aC*1),(ak,al+(IntKind.i64.wrap (((eB.length:Nat):Int)-1):Int).toNat*1)] ((tP 77 4 0)::(tI 76 (IntKind.i64.wrap (((eB.length:Nat):Int)-1)))::(tS 70 a6 eZ.length a7)::(tI 14 aC)::(tS 13 av aA.length aw)::(tS 12 ba aB.length bd)::(CX s eG u a cD d)) _)=>?_
    refine Dr [11,12] (dn 12) ((tI 15 dK)::(tI 14 aC)::(tS 13 av aA.length aw)::(tS 12 ba aB.length bd)::(CX s eG u a cD d)) qt e0 fun aal qu=>?_
    refine AL (by kernel_rfl) (XT (Au (by kernel_rfl) ?_))
    replace e0:=e0.drew
    refine Ax [] [(f,0),(g,0),(af,ah+Yc aC*1),(ai,aj+Yc aC*1),(ak,al+(IntKind.i64.wrap (((eB.length:Nat):Int)-1):Int).toNat*1)] [⟨NW t_ p q l m,some 25⟩,⟨Hr aa cO ac ab ad,some 41⟩,⟨[Yb a6 eZ.length a7],none⟩,⟨[Yb bf eB.length bg],none⟩,⟨[XR dK],none⟩] ?_
    refine Dr [0,1,4,5,6,7] [7,6,5,4,1,0] ((tI 86 dK)::(tS 85 l t_.trips.length m)::(tS 83 av aA.length aw)::(tI 80 aC)::(tS 79 ba aB.length bd)::(tI 15 dK)::(tI 14 aC)::(CX s eG u a cD d)) qu e0 fun aam qv=>?_
    obtain⟨dZ,ex87,bh⟩:=Ao bh
    obtain⟨u5,va,wi⟩:=Aj ex87
    obtain⟨am,an,yv,ox,v0,o5⟩:=ax.get (by decide) wi
    obtain⟨_,_,rfl,rfl,⟨_,_,rfl,rfl,⟨_,_,rfl,rfl,⟨_,_,rfl,rfl,⟨_,_,rfl,rfl,rfl⟩⟩⟩⟩⟩:=v0
    have iz:=e0.addPlc (b:=am) (o:=an+Yc dK*6) (cs:=(VU dZ)) (fun j c hj=>o5 j _ (Ak hj)) rfl (by kernel_rfl) (by kernel_rfl)
    refine A5 8 (dK) (VU dZ) (fun _ _ _ _ _ h=>h) rfl rfl (rfl) rfl (by decide) (by kernel_rfl) (by kernel_rfl) qv e0.plOk (by rfl) (by rfl) (by rfl) ox (by rfl) u5 va (by kernel_rfl) fun w9 (qw:Kn _ [(f,0),(g,0),(af,ah+Yc aC*1),(ai,aj+Yc aC*1),(ak,al+(IntKind.i64.wrap (((eB.length:Nat):Int)-1):Int).toNat*1),(am,an+Yc dK*6)] ((tP 87 5 0)::(tI 86 dK)::(tS 85 l t_.trips.length m)::(tS 83 av aA.length aw)::(tI 80 aC)::(tS 79 ba aB.length bd)::(tI 15 dK)::(tI 14 aC)::(CX s eG u a cD d)) _)=>?_
    refine Dr [9,10,11,12] [12,11,10,9,8,7,6,5,4,1,0] ((tI 91 dK)::(tS 90 s eG.length u)::(tI 89 dZ.start)::(tS 83 av aA.length aw)::(tI 80 aC)::(tS 79 ba aB.length bd)::(tI 14 aC)::(CX s eG u a cD d)) qw iz fun aan qx=>?_
    obtain⟨eT,ex92,bh⟩:=Ao bh
    obtain⟨u6,vb,wj⟩:=Aj ex92
    obtain⟨ao,ap,yw,oy,v1,o6⟩:=ec.get (by decide) wj
    obtain rfl:=v1
    have k8:=iz.addPlc (b:=ao) (o:=ap+Yc dK*1) (cs:=[XR eT]) (fun j c hj=>o6 j _ (Ak hj)) rfl (by kernel_rfl) (by kernel_rfl)
    refine A5 13 (dK) [XR eT] (fun _ _ _ _ _ h=>h) rfl rfl (rfl) rfl (by decide) (by kernel_rfl) (by kernel_rfl) qx iz.plOk (by rfl) (by rfl) (by rfl) oy (by rfl) u6 vb (by kernel_rfl) fun xa (qy:Kn _ (FH f g af ah aC ai aj ak al eB am an dK ao ap) ((tP 92 6 0)::(tI 91 dK)::(tS 90 s eG.length u)::(tI 89 dZ.start)::(tS 83 av aA.length aw)::(tI 80 aC)::(tS 79 ba aB.length bd)::(tI 14 aC)::(CX s eG u a cD d)) _)=>?_
    refine Dr [14,15] [15,14,13,12,11,10,9,8,7,6,5,4,1,0] ((tI 94 (IntKind.i64.wrap (dZ.start+eT)))::(tS 83 av aA.length aw)::(tI 80 aC)::(tS 79 ba aB.length bd)::(tI 14 aC)::(CX s eG u a cD d)) qy k8 fun aao qz=>?_
    obtain⟨jB,ex82,bh⟩:=Ao bh
    obtain⟨jA,ex96,bh⟩:=Ao bh
    have uq:Ai _ _ (FH f g af ah aC ai aj ak al eB am an dK ao ap) (Ig t_ p q l m aa cO ac ab ad a6 eZ a7 bf eB bg dK dZ eT) [⟨a2,cG.length,a3,3,1,a1,a4⟩,⟨ba,aB.length,bd,3,1,cn,0⟩,⟨av,aA.length,aw,3,1,ca,0⟩,⟨none,0,0,3,1,[],0⟩] _:=k8.nilRow 3 1
    have ur:Ai _ _ (FH f g af ah aC ai aj ak al eB am an dK ao ap) (Ig t_ p q l m aa cO ac ab ad a6 eZ a7 bf eB bg dK dZ eT) [⟨a2,cG.length,a3,3,1,a1,a4⟩,⟨ba,aB.length,bd,3,1,cn,0⟩,⟨av,aA.length,aw,3,1,ca,0⟩,⟨none,0,0,3,1,[],0⟩,⟨none,0,0,3,1,[],0⟩] _:=uq.nilRow 3 1
    refine BT (XQ 208 ⟨w,h,BF⟩ (FH f g af ah aC ai aj ak al eB am an dK ao ap) (Ig t_ p q l m aa cO ac ab ad a6 eZ a7 bf eB bg dK dZ eT) (Ig t_ p q l m aa cO ac ab ad a6 eZ a7 bf eB bg dK dZ eT) [] [⟨16,95,3,1,1,P7 dZ eT⟩] [3,2,15,14,13,12,11,10,9,8,7,6,5,4,1,0] (fun mm hx rw=>∃ (b2:Yd)(b5:Nat)(e5:Ye)(cp:Yd)(cq:Nat)(co:Ye),mm=((tS 82 b2 jB.length b5)::(tI 94 (IntKind.i64.wrap (dZ.start+eT)))::(tS 83 av aA.length aw)::(tI 14 aC)::(CX s eG u a cD d))∧rw=[⟨a2,cG.length,a3,3,1,a1,a4⟩,⟨b2,jB.length,b5,3,1,e5,0⟩,⟨av,aA.length,aw,3,1,ca,0⟩,⟨cp,1,cq,3,1,co,0⟩]∧Ac.le df hx∧Ae hx jB e5∧Ae hx ([aC]:List Int) co)) ?_ (fun wv=>?_)
    ·
     refine Qn (Ub [(17,[true])] ?_ (fun _ _ _ hm=>hm.plOk) (by kernel_rfl) (by kernel_rfl) ⟨?_,trivial⟩)
     ·
      rintro _ _ _ ⟨b2,b5,e5,cp,cq,co,rfl,rfl,_,_,_⟩
      exact⟨⟨⟨_,_,_,rfl,rfl,rfl,rfl,rfl,by rfl,by rfl,by rfl,rfl,by kernel_rfl⟩,trivial⟩,by kernel_rfl⟩
     intro y7 y9 xb ep z1 z3 yc oj nu me nw fw g7
     obtain⟨j3,rfl⟩:=XB oj
     obtain⟨bt,rfl⟩:=XB nu
     obtain rfl:j3=true:=by cases j3 <;> first | rfl | exact(Bool.false_ne_true me).elim
     obtain⟨b2,b5,e5,cp,cq,co,rfl,rfl,cu,o7,ki⟩:=nw
     replace gn:=gn.mono cu
     replace fw:=fw.req [true] (by kernel_rfl) me rfl
     have fq:Ae ep ([IntKind.i64.wrap (dZ.start+eT)]:List Int) ([.int .i64 (IntKind.i64.wrap (dZ.start+eT))]:Ye):=⟨_,_,rfl,(Ad:rep ep (IntKind.i64.wrap (dZ.start+eT):Int) _),rfl⟩
     replace fw:Kn _ _ ([tS 82 b2 jB.length b5,tI 94 (IntKind.i64.wrap (dZ.start+eT)),tS 83 av aA.length aw,tI 14 aC,tS 11 s eG.length u,tP 9 1 0,tS 7 a cD.1.length d,tP 3 0 0,tS 95 bt 1 1]++FI [⟨16,95,3,1,1,P7 dZ eT⟩] [true] [bt]) _:=fw
     replace g7:Ai _ _ (FH f g af ah aC ai aj ak al eB am an dK ao ap) (Ig t_ p q l m aa cO ac ab ad a6 eZ a7 bf eB bg dK dZ eT) [⟨a2,cG.length,a3,3,1,a1,a4⟩,⟨b2,jB.length,b5,3,1,e5,0⟩,⟨av,aA.length,aw,3,1,ca,0⟩,⟨cp,1,cq,3,1,co,0⟩,⟨bt,1,1,3,1,([.int .i64 (IntKind.i64.wrap (dZ.start+eT))]:Ye),0⟩] _:=g7
     refine⟨_,rfl,rfl,fun K hK=>?_⟩
     obtain⟨je,t3⟩:=Bj ex96
     refine AS 2 8 1 _ (jA.length) _ ([.int .i64 (IntKind.i64.wrap (dZ.start+eT))]:Ye) fw g7 rfl rfl (by decide) rfl (by rfl) (by kernel_rfl) (by rfl) (by rfl) (Ae.len fq) (g7.rowCell (i:=4) rfl) fq.one (by rw [je]; simp <;> omega) (by rw [je]; exact t3) (by decide) fun dk dq nl xc acn pv (q3:Kn _ (FH f g af ah aC ai aj ak al eB am an dK ao ap) ([tS 96 dk jA.length dq,tS 82 b2 jB.length b5,tI 94 (IntKind.i64.wrap (dZ.start+eT)),tS 83 av aA.length aw,tI 14 aC,tS 11 s eG.length u,tP 9 1 0,tS 7 a cD.1.length d,tP 3 0 0,tS 95 bt 1 1]++FI [⟨16,95,3,1,1,P7 dZ eT⟩] [true] [bt]) _) g8=>?_
     have o8:Ae ep jA (ca++([.int .i64 (IntKind.i64.wrap (dZ.start+eT))]:Ye)):=by rw [je]; exact Ae.append gn fq
     obtain rfl:nl=0:=Nat.le_zero.1 pv
     refine hK _ _ g8.plOk ?_
     refine Xw [18,19] (19::18::17::(VM [⟨16,95,3,1,1,P7 dZ eT⟩] [true]++[3,2,15,14,13,12,11,10,9,8,7,6,5,4,1,0])) ([tS 13 dk jA.length dq,tS 12 b2 jB.length b5,tS 96 dk jA.length dq,tS 82 b2 jB.length b5,tI 94 (IntKind.i64.wrap (dZ.start+eT)),tS 83 av aA.length aw,tI 14 aC,tS 11 s eG.length u,tP 9 1 0,tS 7 a cD.1.length d,tP 3 0 0,tS 95 bt 1 1]++FI [⟨16,95,3,1,1,P7 dZ eT⟩] [true] [bt]) (fun _ _ _ _ _ h=>h) q3 g8.plOk (by kernel_rfl) (by rfl) (by kernel_rfl) fun m1 (q4:Kn _ (FH f g af ah aC ai aj ak al eB am an dK ao ap) ([tS 13 dk jA.length dq,tS 12 b2 jB.length b5,tS 96 dk jA.length dq,tS 82 b2 jB.length b5,tI 94 (IntKind.i64.wrap (dZ.start+eT)),tS 83 av aA.length aw,tI 14 aC,tS 11 s eG.length u,tP 9 1 0,tS 7 a cD.1.length d,tP 3 0 0,tS 95 bt 1 1]++FI [⟨16,95,3,1,1,P7 dZ eT⟩] [true] [bt]) _)=>?_
     have q5:Kn _ _ ((tS 13 dk jA.length dq)::(tS 12 b2 jB.length b5)::(tI 14 aC)::(CX s eG u a cD d)) _:=q4.kp
     refine AL (by kernel_rfl) (XT (Aa (Rk 0 2 ((tI 16 aC)::(tS 13 dk jA.length dq)::(tS 12 b2 jB.length b5)::(tI 14 aC)::(CX s eG u a cD d)) q5 g8 fun aar q6=>?_)))
     refine wf ?_
     obtain⟨cw,j7,bh⟩:=Ao bh
     refine Ar (fun a' w'=>∃ (e6:Yd)(fb:Nat)(hs:Ye)(e7:Yd)(fc:Nat)(ht:Ye)(js:Array Value)(ff:Ac),a' = ⟨js,[]⟩∧Kn 208 (FH f g af ah aC ai aj ak al eB am an dK ao ap) ((tS 13 e7 cw.2.length fc)::(tS 12 e6 cw.1.length fb)::(tI 14 aC)::(CX s eG u a cD d)) js∧Ai ⟨w,h,BF⟩ ff (FH f g af ah aC ai aj ak al eB am an dK ao ap) (Ig t_ p q l m aa cO ac ab ad a6 eZ a7 bf eB bg dK dZ eT) [⟨a2,cG.length,a3,3,1,a1,a4⟩,⟨e6,cw.1.length,fb,3,1,hs,0⟩,⟨e7,cw.2.length,fc,3,1,ht,0⟩,⟨cp,1,cq,3,1,co,0⟩,⟨bt,1,1,3,1,([.int .i64 (IntKind.i64.wrap (dZ.start+eT))]:Ye),0⟩] w'∧Ac.le ep ff∧Ae ff cw.1 hs∧Ae ff cw.2 ht) ?_ ?_
     ·
      refine wp_block ?_
      refine Av (fun wy a' w'=>∃ (aD:List Int)(aE:List Int)(aF:Int)(x:Yd)(y:Nat)(ay:Ye)(ae:Yd)(ag:Nat)(a5:Ye)(jt:Array Value)(er:Ac),a' = ⟨jt,[]⟩∧Kn 208 (FH f g af ah aC ai aj ak al eB am an dK ao ap) (GF aF ae aE ag x aD y aC s eG u a cD d) jt∧Ai ⟨w,h,BF⟩ er (FH f g af ah aC ai aj ak al eB am an dK ao ap) (Ig t_ p q l m aa cO ac ab ad a6 eZ a7 bf eB bg dK dZ eT) [⟨a2,cG.length,a3,3,1,a1,a4⟩,⟨x,aD.length,y,3,1,ay,0⟩,⟨ae,aE.length,ag,3,1,a5,0⟩,⟨cp,1,cq,3,1,co,0⟩,⟨bt,1,1,3,1,([.int .i64 (IntKind.i64.wrap (dZ.start+eT))]:Ye),0⟩] w'∧Ac.le ep er∧Ae er aD ay∧Ae er aE a5∧BY wy  aD aE aF=some cw) hr ?_ ?_
      ·
       exact XY jB ⟨jA,aC,b2,b5,e5,dk,dq,ca++([.int .i64 (IntKind.i64.wrap (dZ.start+eT))]:Ye),_,_,rfl,q6.kp,g8,Ac.le_refl _,o7,o8,j7⟩
      rintro jm _ aco ⟨aD,aE,aF,x,y,ay,ae,ag,a5,jt,er,rfl,q7,di,ch,ct,bw,az⟩
      clear j7
      obtain _ | jm:=jm
      ·
       rw [BY] at az; cases az
      rw [BY] at az
      refine XT (XT ?_)
      obtain⟨mx,dv,az⟩:=Ao az
      refine Ar (fun a' w'=>∃ (ju:Array Value)(bv:Ac),a' = ⟨ju,[]⟩∧Kn 208 (FH f g af ah aC ai aj ak al eB am an dK ao ap) [tI 16 aF,tS 13 ae aE.length ag,tS 12 x aD.length y,tI 14 aC,tS 11 s eG.length u,tP 9 1 0,tS 7 a cD.1.length d,tP 3 0 0,tB 111 mx] ju∧Ai ⟨w,h,BF⟩ bv (FH f g af ah aC ai aj ak al eB am an dK ao ap) (Ig t_ p q l m aa cO ac ab ad a6 eZ a7 bf eB bg dK dZ eT) [⟨a2,cG.length,a3,3,1,a1,a4⟩,⟨x,aD.length,y,3,1,ay,0⟩,⟨ae,aE.length,ag,3,1,a5,0⟩,⟨cp,1,cq,3,1,co,0⟩,⟨bt,1,1,3,1,([.int .i64 (IntKind.i64.wrap (dZ.start+eT))]:Ye),0⟩] w'∧Ac.le er bv) ?_ ?_
      ·
       refine Au (by kernel_rfl) ?_
       replace di:=di.drew
       refine Ax [] (FH f g af ah aC ai aj ak al eB am an dK ao ap) (Ig t_ p q l m aa cO ac ab ad a6 eZ a7 bf eB bg dK dZ eT) ?_
       refine Dr [0,1,2] [2,1,0] ((tB 100 (decide (aF>0)))::(GF aF ae aE ag x aD y aC s eG u a cD d)) q7 di fun m2 kq=>?_
       rcases Y2 (decide (aF>0)) with fj | fj
       ·
        rw [fj,XW] at dv
        have q8:Kn _ _ ((tB 100 true)::(GF aF ae aE ag x aD y aC s eG u a cD d)) _:=(kq.setB 100 true (by rfl) fj).kp
        refine Dr [3,4] (dn 4) ((tI 102 aF)::(tS 101 ae aE.length ag)::(tB 100 true)::(GF aF ae aE ag x aD y aC s eG u a cD d)) q8 di fun aas kr=>?_
        obtain⟨iV,ex103,dv⟩:=Ao dv
        obtain⟨l4,mf,wk⟩:=Aj ex103
        have t4:=AG l4 mf
        obtain⟨yx,v2,pb⟩:=AM (sz:=1) rfl bw wk
        obtain rfl:=v2
        obtain⟨hv,gl⟩:=AP di (i:=2) rfl (b0:=0+Yc aF*1) (Y5 (Y6 (by decide)) (A3 (sz:=1) rfl bw t4))
        have e1:=di.addPlc (b:=hv) (o:=0+Yc aF*1) (cs:=[]) (fun j c hj=>by simp at hj) rfl (by kernel_rfl) (by kernel_rfl)
        have ig:∀ (e:AJ) k c,([XR iV]:List SC)[k]? = some c→(a5)[0+Yc aF*1+k]? = some (c.den e):=fun e k c hk=>pb k _ (Ak hk)
        refine A5 5 (aF) [XR iV] (fun _ _ _ _ _ h=>h) rfl rfl (Al kr (by kernel_rfl)) rfl (by decide) (by kernel_rfl) (by kernel_rfl) kr di.plOk (by rfl) (by rfl) (by rfl) gl (by rfl) l4 mf (by kernel_rfl) fun xd (q9:Kn _ [(f,0),(g,0),(af,ah+Yc aC*1),(ai,aj+Yc aC*1),(ak,al+(IntKind.i64.wrap (((eB.length:Nat):Int)-1):Int).toNat*1),(am,an+Yc dK*6),(ao,ap+Yc dK*1),(hv,0+Yc aF*1)] ((tP 103 7 0)::(tI 102 aF)::(tS 101 ae aE.length ag)::(tB 100 true)::(GF aF ae aE ag x aD y aC s eG u a cD d)) _)=>?_
        refine Dj [6,7,8,9] [9,8,7,6,5,4,3,2,1,0] [107,105,104,100,16,13,12,14,11,9,7,3] ((tI 107 (IntKind.i64.wrap (aF-1)))::(tS 105 ae aE.length ag)::(tI 104 iV)::(tB 100 true)::(GF aF ae aE ag x aD y aC s eG u a cD d)) (fun _ _ _ _ _ h=>h) q9 (Ay.peek e1.plOk e1 2 7 rfl rfl gl [XR iV] (ig _)) (by kernel_rfl) (by rfl) (by kernel_rfl) fun aat ks=>?_
        obtain⟨kI,ex108,dv⟩:=Ao dv
        obtain⟨l5,mg,wm⟩:=Aj ex108
        have t5:=AG l5 mg
        obtain⟨yy,v3,pc⟩:=AM (sz:=1) rfl bw wm
        obtain rfl:=v3
        obtain⟨j2,kc⟩:=AP e1 (i:=2) rfl (b0:=0+(IntKind.i64.wrap (aF-1):Int).toNat*1) (Y5 (Y6 (by decide)) (A3 (sz:=1) rfl bw t5))
        have g9:=e1.addPlc (b:=j2) (o:=0+(IntKind.i64.wrap (aF-1):Int).toNat*1) (cs:=[]) (fun j c hj=>by simp at hj) rfl (by kernel_rfl) (by kernel_rfl)
        have pd:∀ (e:AJ) k c,([XR kI]:List SC)[k]? = some c→(a5)[0+(IntKind.i64.wrap (aF-1):Int).toNat*1+k]? = some (c.den e):=fun e k c hk=>pc k _ (Ak hk)
        refine A5 10 (IntKind.i64.wrap (aF-1)) [XR kI] (fun _ _ _ _ _ h=>h) rfl rfl (Al ks (by kernel_rfl)) rfl (by decide) (by kernel_rfl) (by kernel_rfl) ks (Ay.peek e1.plOk e1 2 7 rfl rfl gl [XR iV] (ig _)) (by rfl) (by rfl) (by rfl) kc (by rfl) l5 mg (by kernel_rfl) fun xe (ra:Kn _ [(f,0),(g,0),(af,ah+Yc aC*1),(ai,aj+Yc aC*1),(ak,al+(IntKind.i64.wrap (((eB.length:Nat):Int)-1):Int).toNat*1),(am,an+Yc dK*6),(ao,ap+Yc dK*1),(hv,0+Yc aF*1),(j2,0+(IntKind.i64.wrap (aF-1):Int).toNat*1)] ((tP 108 8 0)::(tI 107 (IntKind.i64.wrap (aF-1)))::(tS 105 ae aE.length ag)::(tI 104 iV)::(tB 100 true)::(GF aF ae aE ag x aD y aC s eG u a cD d)) _)=>?_
        refine Dj [11,12,13] [13,12,11,10,9,8,7,6,5,4,3,2,1,0] [111,16,13,12,14,11,9,7,3] ((tB 111 (decide (iV<kI)))::(GF aF ae aE ag x aD y aC s eG u a cD d)) (fun _ _ _ _ _ h=>h) ra (Ay.peek (Ay.peek g9.plOk g9 2 7 rfl rfl gl [XR iV] (ig _)) g9 2 8 rfl rfl kc [XR kI] (pd _)) (by kernel_rfl) (by rfl) (by kernel_rfl) fun aau rb=>?_
        refine AL (by kernel_rfl) ?_
        obtain rfl:=XZ dv
        exact XY _ ⟨_,rfl,(rb.keep [16,13,12,14,11,9,7,3,111] (by rfl)).cut 7 (by kernel_rfl),g9.cutPl 7 (by kernel_rfl),Ac.le_refl _⟩
       rw [fj,XV] at dv
       have rc:Kn _ _ ((tB 100 false)::(GF aF ae aE ag x aD y aC s eG u a cD d)) _:=(kq.setB 100 false (by rfl) fj).kp
       refine Dr [3,4,5,6,7,8,9,10,11,12,13] (dn 13) ((tB 111 false)::(GF aF ae aE ag x aD y aC s eG u a cD d)) rc di fun aav rd=>?_
       refine AL (by kernel_rfl) ?_
       obtain rfl:=XZ dv
       exact XY _ ⟨_,rfl,rd.kp,di,Ac.le_refl _⟩
      rintro _ acq ⟨ju,bv,rfl,ik,ea,g0⟩
      replace ct:=ct.mono g0
      replace bw:=bw.mono g0
      refine wC (mx) ik (fun ia=>?_) (fun ia=>?_)
      ·
       rw [Ba ia] at az
       refine wp_skip (XT (wp_block (XT (Au (by kernel_rfl) ?_))))
       replace ea:=ea.drew
       refine Ax [] (FH f g af ah aC ai aj ak al eB am an dK ao ap) (Ig t_ p q l m aa cO ac ab ad a6 eZ a7 bf eB bg dK dZ eT) ?_
       refine Dr [0,1,2,3,4,5,6,7] (dn 7) ((tI 121 (IntKind.i64.wrap (aF-1)))::(tS 119 x aD.length y)::(tI 118 (IntKind.i64.wrap (aF-1)))::(tS 116 x aD.length y)::(tI 115 aF)::(tS 114 x aD.length y)::(GF aF ae aE ag x aD y aC s eG u a cD d)) ik ea fun aaw re=>?_
       obtain⟨eV,ex122,az⟩:=Ao az
       obtain⟨l6,mh,wn⟩:=Aj ex122
       have t6:=AG l6 mh
       obtain⟨yz,v4,pe⟩:=AM (sz:=1) rfl ct wn
       obtain rfl:=v4
       obtain⟨a8,fg⟩:=AP ea (i:=1) rfl (b0:=0+(IntKind.i64.wrap (aF-1):Int).toNat*1) (Y5 (Y6 (by decide)) (A3 (sz:=1) rfl ct t6))
       have e2:=ea.addPlc (b:=a8) (o:=0+(IntKind.i64.wrap (aF-1):Int).toNat*1) (cs:=[]) (fun j c hj=>by simp at hj) rfl (by kernel_rfl) (by kernel_rfl)
       have gp:∀ (e:AJ) k c,([XR eV]:List SC)[k]? = some c→(ay)[0+(IntKind.i64.wrap (aF-1):Int).toNat*1+k]? = some (c.den e):=fun e k c hk=>pe k _ (Ak hk)
       refine A5 8 (IntKind.i64.wrap (aF-1)) [XR eV] (fun _ _ _ _ _ h=>h) rfl rfl (rfl) rfl (by decide) (by kernel_rfl) (by kernel_rfl) re ea.plOk (by rfl) (by rfl) (by rfl) fg (by rfl) l6 mh (by kernel_rfl) fun xg (rg:Kn _ [(f,0),(g,0),(af,ah+Yc aC*1),(ai,aj+Yc aC*1),(ak,al+(IntKind.i64.wrap (((eB.length:Nat):Int)-1):Int).toNat*1),(am,an+Yc dK*6),(ao,ap+Yc dK*1),(a8,0+(IntKind.i64.wrap (aF-1):Int).toNat*1)] ((tP 122 7 0)::(tI 121 (IntKind.i64.wrap (aF-1)))::(tS 119 x aD.length y)::(tI 118 (IntKind.i64.wrap (aF-1)))::(tS 116 x aD.length y)::(tI 115 aF)::(tS 114 x aD.length y)::(GF aF ae aE ag x aD y aC s eG u a cD d)) _)=>?_
       refine Dj [9,10,11] [11,10,9,8,7,6,5,4,3,2,1,0] [125,124,123,118,116,115,114,16,13,12,14,11,9,7,3] ((tI 125 aF)::(tS 124 x aD.length y)::(tI 123 eV)::(tI 118 (IntKind.i64.wrap (aF-1)))::(tS 116 x aD.length y)::(tI 115 aF)::(tS 114 x aD.length y)::(GF aF ae aE ag x aD y aC s eG u a cD d)) (fun _ _ _ _ _ h=>h) rg (Ay.peek e2.plOk e2 1 7 rfl rfl fg [XR eV] (gp _)) (by kernel_rfl) (by rfl) (by kernel_rfl) fun aax rh=>?_
       obtain⟨gI,ex126,az⟩:=Ao az
       obtain⟨l7,mi,wo⟩:=Aj ex126
       have t7:=AG l7 mi
       obtain⟨y0,v5,pf⟩:=AM (sz:=1) rfl ct wo
       obtain rfl:=v5
       obtain⟨a9,h5⟩:=AP e2 (i:=1) rfl (b0:=0+Yc aF*1) (Y5 (Y6 (by decide)) (A3 (sz:=1) rfl ct t7))
       have dy:=e2.addPlc (b:=a9) (o:=0+Yc aF*1) (cs:=[]) (fun j c hj=>by simp at hj) rfl (by kernel_rfl) (by kernel_rfl)
       have kj:∀ (e:AJ) k c,([XR gI]:List SC)[k]? = some c→(ay)[0+Yc aF*1+k]? = some (c.den e):=fun e k c hk=>pf k _ (Ak hk)
       refine A5 12 (aF) [XR gI] (fun _ _ _ _ _ h=>h) rfl rfl (rfl) rfl (by decide) (by kernel_rfl) (by kernel_rfl) rh (Ay.peek e2.plOk e2 1 7 rfl rfl fg [XR eV] (gp _)) (by rfl) (by rfl) (by rfl) h5 (by rfl) l7 mi (by kernel_rfl) fun xh (rj:Kn _ [(f,0),(g,0),(af,ah+Yc aC*1),(ai,aj+Yc aC*1),(ak,al+(IntKind.i64.wrap (((eB.length:Nat):Int)-1):Int).toNat*1),(am,an+Yc dK*6),(ao,ap+Yc dK*1),(a8,0+(IntKind.i64.wrap (aF-1):Int).toNat*1),(a9,0+Yc aF*1)] ((tP 126 8 0)::(tI 125 aF)::(tS 124 x aD.length y)::(tI 123 eV)::(tI 118 (IntKind.i64.wrap (aF-1)))::(tS 116 x aD.length y)::(tI 115 aF)::(tS 114 x aD.length y)::(GF aF ae aE ag x aD y aC s eG u a cD d)) _)=>?_
       refine Dj [13] [13,12,11,10,9,8,7,6,5,4,3,2,1,0] [127,123,118,116,115,114,16,13,12,14,11,9,7,3] ((tI 127 gI)::(tI 123 eV)::(tI 118 (IntKind.i64.wrap (aF-1)))::(tS 116 x aD.length y)::(tI 115 aF)::(tS 114 x aD.length y)::(GF aF ae aE ag x aD y aC s eG u a cD d)) (fun _ _ _ _ _ h=>h) rj (Ay.peek (Ay.peek dy.plOk dy 1 7 rfl rfl fg [XR eV] (gp _)) dy 1 8 rfl rfl h5 [XR gI] (kj _)) (by kernel_rfl) (by rfl) (by kernel_rfl) fun aaz rk=>?_
       obtain⟨x128,ex128,az⟩:=Ao az
       obtain⟨l8,mj,wp⟩:=Aj ex128
       have ip:=AG l8 mj
       obtain⟨y1,v6,pg⟩:=AM (sz:=1) rfl ct wp
       obtain rfl:=v6
       obtain⟨bc,kd⟩:=AP dy (i:=1) rfl (b0:=0+Yc aF*1) (Y5 (Y6 (by decide)) (A3 (sz:=1) rfl ct ip))
       have ut:=dy.addPlc (b:=bc) (o:=0+Yc aF*1) (cs:=[]) (fun j c hj=>by simp at hj) rfl (by kernel_rfl) (by kernel_rfl)
       have zj:∀ (e:AJ) k c,([XR x128]:List SC)[k]? = some c→(ay)[0+Yc aF*1+k]? = some (c.den e):=fun e k c hk=>pg k _ (Ak hk)
       refine A5 14 (aF) [XR x128] (fun _ _ _ _ _ h=>h) rfl rfl (rfl) rfl (by decide) (by kernel_rfl) (by kernel_rfl) rk (Ay.peek (Ay.peek dy.plOk dy 1 7 rfl rfl fg [XR eV] (gp _)) dy 1 8 rfl rfl h5 [XR gI] (kj _)) (by rfl) (by rfl) (by rfl) kd (by rfl) l8 mj (by kernel_rfl) fun m3 (rl:Kn _ [(f,0),(g,0),(af,ah+Yc aC*1),(ai,aj+Yc aC*1),(ak,al+(IntKind.i64.wrap (((eB.length:Nat):Int)-1):Int).toNat*1),(am,an+Yc dK*6),(ao,ap+Yc dK*1),(a8,0+(IntKind.i64.wrap (aF-1):Int).toNat*1),(a9,0+Yc aF*1),(bc,0+Yc aF*1)] ((tP 128 9 0)::(tI 127 gI)::(tI 123 eV)::(tI 118 (IntKind.i64.wrap (aF-1)))::(tS 116 x aD.length y)::(tI 115 aF)::(tS 114 x aD.length y)::(GF aF ae aE ag x aD y aC s eG u a cD d)) _)=>?_
       obtain⟨da,ng,az⟩:=Ao az
       obtain⟨zr,zv,mr⟩:=Cl ng
       refine CU 15 rfl (by kernel_rfl) (by decide) (rfl) (by kernel_rfl) fun K hK=>?_
       refine B4 1 9 0 (0+Yc aF*1) (.c (XR eV)) rl ut rfl rfl (by rfl) (by rfl) rfl rfl kd rfl (by kernel_rfl) (A3 (sz:=1) rfl ct ip) fun yd rm uu=>?_
       have gq:Ae bv da (ay.take (0+Yc aF*1+0)++([.int .i64 eV]:Ye)++ay.drop (0+Yc aF*1+0+1)):=by rw [mr]; exact Df (sz:=1) rfl ct ip (Ad:rep bv (eV:Int) _)
       have l0:aD.length=da.length:=by rw [mr]; simp
       have rn:Kn 208 [(f,0),(g,0),(af,ah+Yc aC*1),(ai,aj+Yc aC*1),(ak,al+(IntKind.i64.wrap (((eB.length:Nat):Int)-1):Int).toNat*1),(am,an+Yc dK*6),(ao,ap+Yc dK*1),(a8,0+(IntKind.i64.wrap (aF-1):Int).toNat*1),(a9,0+Yc aF*1),(bc,0+Yc aF*1)] [(128,.one (.c (.ptr 9 0))),(127,.one (.c (XR gI))),(123,.one (.c (XR eV))),(118,.one (.c (XR (IntKind.i64.wrap (aF-1))))),(116,.one (.c (Yb x da.length y))),(115,.one (.c (XR aF))),(114,.one (.c (Yb x da.length y))),(16,.one (.c (XR aF))),(13,.one (.c (Yb ae aE.length ag))),(12,.one (.c (Yb x da.length y))),(14,.one (.c (XR aC))),(11,.one (.c (Yb s eG.length u))),(9,.one (.c (.ptr 1 0))),(7,.one (.c (Yb a cD.1.length d))),(3,.one (.c (.ptr 0 0)))] m3:=by rw [← l0]; exact rm
       have i0:Ai ⟨w,h,BF⟩ bv [(f,0),(g,0),(af,ah+Yc aC*1),(ai,aj+Yc aC*1),(ak,al+(IntKind.i64.wrap (((eB.length:Nat):Int)-1):Int).toNat*1),(am,an+Yc dK*6),(ao,ap+Yc dK*1),(a8,0+(IntKind.i64.wrap (aF-1):Int).toNat*1),(a9,0+Yc aF*1),(bc,0+Yc aF*1)] [⟨[XR t_.places,XR t_.layover,Yb p t_.empty.length q,Yb l t_.trips.length m],some 25⟩,⟨[Yb aa cO.1.room.length ac,Yb ab cO.1.lG.length ad,XR cO.1.broken],some 41⟩,⟨[Yb a6 eZ.length a7],none⟩,⟨[Yb bf eB.length bg],none⟩,⟨[XR dK],none⟩,⟨[XR dZ.fr,XR dZ.to_,XR dZ.start,XR dZ.least,XR dZ.most,XR dZ.kind],none⟩,⟨[XR eT],none⟩,⟨[],none⟩,⟨[],none⟩,⟨[],none⟩] [⟨a2,cG.length,a3,3,1,a1,a4⟩,⟨x,da.length,y,3,1,ay.take (0+Yc aF*1+0)++([.int .i64 eV]:Ye)++ay.drop (0+Yc aF*1+0+1),0⟩,⟨ae,aE.length,ag,3,1,a5,0⟩,⟨cp,1,cq,3,1,co,0⟩,⟨bt,1,1,3,1,([.int .i64 (IntKind.i64.wrap (dZ.start+eT))]:Ye),0⟩] yd:=by rw [← l0]; exact uu
       refine hK _ _ ?_
       refine Ax [] [(f,0),(g,0),(af,ah+Yc aC*1),(ai,aj+Yc aC*1),(ak,al+(IntKind.i64.wrap (((eB.length:Nat):Int)-1):Int).toNat*1),(am,an+Yc dK*6),(ao,ap+Yc dK*1),(a8,0+(IntKind.i64.wrap (aF-1):Int).toNat*1),(a9,0+Yc aF*1),(bc,0+Yc aF*1)] [⟨NW t_ p q l m,some 25⟩,⟨Hr aa cO ac ab ad,some 41⟩,⟨[Yb a6 eZ.length a7],none⟩,⟨[Yb bf eB.length bg],none⟩,⟨[XR dK],none⟩,⟨VU dZ,none⟩,⟨[XR eT],none⟩,⟨[],none⟩,⟨[],none⟩,⟨[],none⟩] ?_
       obtain⟨x129,ex129,az⟩:=Ao az
       obtain⟨l9,mk,wq⟩:=Aj ex129
       have iq:=AG l9 mk
       obtain⟨y2,v7,ph⟩:=AM (sz:=1) rfl gq wq
       obtain rfl:=v7
       obtain⟨bk,ke⟩:=AP i0 (i:=1) rfl (b0:=0+(IntKind.i64.wrap (aF-1):Int).toNat*1) (Y5 (Y6 (by decide)) (A3 (sz:=1) rfl gq iq))
       have uv:=i0.addPlc (b:=bk) (o:=0+(IntKind.i64.wrap (aF-1):Int).toNat*1) (cs:=[]) (fun j c hj=>by simp at hj) rfl (by kernel_rfl) (by kernel_rfl)
       have zk:∀ (e:AJ) k c,([XR x129]:List SC)[k]? = some c→((ay.take (0+Yc aF*1+0)++([.int .i64 eV]:Ye)++ay.drop (0+Yc aF*1+0+1)))[0+(IntKind.i64.wrap (aF-1):Int).toNat*1+k]? = some (c.den e):=fun e k c hk=>ph k _ (Ak hk)
       refine A5 16 (IntKind.i64.wrap (aF-1)) [XR x129] (fun _ _ _ _ _ h=>h) rfl rfl (rfl) rfl (by decide) (by kernel_rfl) (by kernel_rfl) rn i0.plOk (by rfl) (by rfl) (by rfl) ke (by rfl) l9 mk (by kernel_rfl) fun jv (ro:Kn _ (Xb f g af ah aC ai aj ak al eB am an dK ao ap a8 aF a9 bc bk) ((tP 129 10 0)::(tP 128 9 0)::(tI 127 gI)::(tI 123 eV)::(tI 118 (IntKind.i64.wrap (aF-1)))::(tS 116 x da.length y)::(tI 115 aF)::(tS 114 x da.length y)::(tI 16 aF)::(tS 13 ae aE.length ag)::(tS 12 x da.length y)::(tI 14 aC)::(CX s eG u a cD d)) _)=>?_
       obtain⟨bj,nh,az⟩:=Ao az
       obtain⟨zs,zw,ms⟩:=Cl nh
       refine CU 17 rfl (by kernel_rfl) (by decide) (rfl) (by kernel_rfl) fun K hK=>?_
       refine B4 1 10 0 (0+(IntKind.i64.wrap (aF-1):Int).toNat*1) (.c (XR gI)) ro uv rfl rfl (by rfl) (by rfl) rfl rfl ke rfl (by kernel_rfl) (A3 (sz:=1) rfl gq iq) fun ye rp uw=>?_
       have pi:Ae bv bj ((ay.take (0+Yc aF*1+0)++([.int .i64 eV]:Ye)++ay.drop (0+Yc aF*1+0+1)).take (0+(IntKind.i64.wrap (aF-1):Int).toNat*1+0)++([.int .i64 gI]:Ye)++(ay.take (0+Yc aF*1+0)++([.int .i64 eV]:Ye)++ay.drop (0+Yc aF*1+0+1)).drop (0+(IntKind.i64.wrap (aF-1):Int).toNat*1+0+1)):=by rw [ms]; exact Df (sz:=1) rfl gq iq (Ad:rep bv (gI:Int) _)
       have l1:da.length=bj.length:=by rw [ms]; simp
       have rq:Kn 208 [(f,0),(g,0),(af,ah+Yc aC*1),(ai,aj+Yc aC*1),(ak,al+(IntKind.i64.wrap (((eB.length:Nat):Int)-1):Int).toNat*1),(am,an+Yc dK*6),(ao,ap+Yc dK*1),(a8,0+(IntKind.i64.wrap (aF-1):Int).toNat*1),(a9,0+Yc aF*1),(bc,0+Yc aF*1),(bk,0+(IntKind.i64.wrap (aF-1):Int).toNat*1)] [(129,.one (.c (.ptr 10 0))),(128,.one (.c (.ptr 9 0))),(127,.one (.c (XR gI))),(123,.one (.c (XR eV))),(118,.one (.c (XR (IntKind.i64.wrap (aF-1))))),(116,.one (.c (Yb x bj.length y))),(115,.one (.c (XR aF))),(114,.one (.c (Yb x bj.length y))),(16,.one (.c (XR aF))),(13,.one (.c (Yb ae aE.length ag))),(12,.one (.c (Yb x bj.length y))),(14,.one (.c (XR aC))),(11,.one (.c (Yb s eG.length u))),(9,.one (.c (.ptr 1 0))),(7,.one (.c (Yb a cD.1.length d))),(3,.one (.c (.ptr 0 0)))] jv:=by rw [← l1]; exact rp
       have e3:Ai ⟨w,h,BF⟩ bv [(f,0),(g,0),(af,ah+Yc aC*1),(ai,aj+Yc aC*1),(ak,al+(IntKind.i64.wrap (((eB.length:Nat):Int)-1):Int).toNat*1),(am,an+Yc dK*6),(ao,ap+Yc dK*1),(a8,0+(IntKind.i64.wrap (aF-1):Int).toNat*1),(a9,0+Yc aF*1),(bc,0+Yc aF*1),(bk,0+(IntKind.i64.wrap (aF-1):Int).toNat*1)] [⟨[XR t_.places,XR t_.layover,Yb p t_.empty.length q,Yb l t_.trips.length m],some 25⟩,⟨[Yb aa cO.1.room.length ac,Yb ab cO.1.lG.length ad,XR cO.1.broken],some 41⟩,⟨[Yb a6 eZ.length a7],none⟩,⟨[Yb bf eB.length bg],none⟩,⟨[XR dK],none⟩,⟨[XR dZ.fr,XR dZ.to_,XR dZ.start,XR dZ.least,XR dZ.most,XR dZ.kind],none⟩,⟨[XR eT],none⟩,⟨[],none⟩,⟨[],none⟩,⟨[],none⟩,⟨[],none⟩] [⟨a2,cG.length,a3,3,1,a1,a4⟩,⟨x,bj.length,y,3,1,(ay.take (0+Yc aF*1+0)++([.int .i64 eV]:Ye)++ay.drop (0+Yc aF*1+0+1)).take (0+(IntKind.i64.wrap (aF-1):Int).toNat*1+0)++([.int .i64 gI]:Ye)++(ay.take (0+Yc aF*1+0)++([.int .i64 eV]:Ye)++ay.drop (0+Yc aF*1+0+1)).drop (0+(IntKind.i64.wrap (aF-1):Int).toNat*1+0+1),0⟩,⟨ae,aE.length,ag,3,1,a5,0⟩,⟨cp,1,cq,3,1,co,0⟩,⟨bt,1,1,3,1,([.int .i64 (IntKind.i64.wrap (dZ.start+eT))]:Ye),0⟩] ye:=by rw [← l1]; exact uw
       refine hK _ _ ?_
       have rr:Kn _ _ ((tI 16 aF)::(tS 13 ae aE.length ag)::(tS 12 x bj.length y)::(tI 14 aC)::(CX s eG u a cD d)) _:=rq.kp
       refine Iv (by kernel_rfl) (Au (by kernel_rfl) ?_)
       replace e3:=e3.drew
       refine Ax [] (Xb f g af ah aC ai aj ak al eB am an dK ao ap a8 aF a9 bc bk) [⟨NW t_ p q l m,some 25⟩,⟨Hr aa cO ac ab ad,some 41⟩,⟨[Yb a6 eZ.length a7],none⟩,⟨[Yb bf eB.length bg],none⟩,⟨[XR dK],none⟩,⟨VU dZ,none⟩,⟨[XR eT],none⟩,⟨[],none⟩,⟨[],none⟩,⟨[],none⟩,⟨[],none⟩] ?_
       refine Dr [0,1,2,3,4,5,6,7] (dn 7) ((tI 137 (IntKind.i64.wrap (aF-1)))::(tS 135 ae aE.length ag)::(Q8 aF ae aE ag x bj y aC s eG u a cD d)) rr e3 fun aa0 rs=>?_
       obtain⟨fH,ex138,az⟩:=Ao az
       obtain⟨ma,ml,wr⟩:=Aj ex138
       have t8:=AG ma ml
       obtain⟨y3,v8,pj⟩:=AM (sz:=1) rfl bw wr
       obtain rfl:=v8
       obtain⟨bu,fh⟩:=AP e3 (i:=2) rfl (b0:=0+(IntKind.i64.wrap (aF-1):Int).toNat*1) (Y5 (Y6 (by decide)) (A3 (sz:=1) rfl bw t8))
       have e4:=e3.addPlc (b:=bu) (o:=0+(IntKind.i64.wrap (aF-1):Int).toNat*1) (cs:=[]) (fun j c hj=>by simp at hj) rfl (by kernel_rfl) (by kernel_rfl)
       have gr:∀ (e:AJ) k c,([XR fH]:List SC)[k]? = some c→(a5)[0+(IntKind.i64.wrap (aF-1):Int).toNat*1+k]? = some (c.den e):=fun e k c hk=>pj k _ (Ak hk)
       refine A5 8 (IntKind.i64.wrap (aF-1)) [XR fH] (fun _ _ _ _ _ h=>h) rfl rfl (rfl) rfl (by decide) (by kernel_rfl) (by kernel_rfl) rs e3.plOk (by rfl) (by rfl) (by rfl) fh (by rfl) ma ml (by kernel_rfl) fun xi (ru:Kn _ [(f,0),(g,0),(af,ah+Yc aC*1),(ai,aj+Yc aC*1),(ak,al+(IntKind.i64.wrap (((eB.length:Nat):Int)-1):Int).toNat*1),(am,an+Yc dK*6),(ao,ap+Yc dK*1),(a8,0+(IntKind.i64.wrap (aF-1):Int).toNat*1),(a9,0+Yc aF*1),(bc,0+Yc aF*1),(bk,0+(IntKind.i64.wrap (aF-1):Int).toNat*1),(bu,0+(IntKind.i64.wrap (aF-1):Int).toNat*1)] ((tP 138 11 0)::(tI 137 (IntKind.i64.wrap (aF-1)))::(tS 135 ae aE.length ag)::(Q8 aF ae aE ag x bj y aC s eG u a cD d)) _)=>?_
       refine Dj [9,10,11] [11,10,9,8,7,6,5,4,3,2,1,0] [141,140,139,134,132,131,130,16,13,12,14,11,9,7,3] ((tI 141 aF)::(tS 140 ae aE.length ag)::(tI 139 fH)::(Q8 aF ae aE ag x bj y aC s eG u a cD d)) (fun _ _ _ _ _ h=>h) ru (Ay.peek e4.plOk e4 2 11 rfl rfl fh [XR fH] (gr _)) (by kernel_rfl) (by rfl) (by kernel_rfl) fun aa1 rv=>?_
       obtain⟨gP,ex142,az⟩:=Ao az
       obtain⟨mb,mn,ws⟩:=Aj ex142
       have t9:=AG mb mn
       obtain⟨y4,v9,pk⟩:=AM (sz:=1) rfl bw ws
       obtain rfl:=v9
       obtain⟨b4,h6⟩:=AP e4 (i:=2) rfl (b0:=0+Yc aF*1) (Y5 (Y6 (by decide)) (A3 (sz:=1) rfl bw t9))
       have dz:=e4.addPlc (b:=b4) (o:=0+Yc aF*1) (cs:=[]) (fun j c hj=>by simp at hj) rfl (by kernel_rfl) (by kernel_rfl)
       have kk:∀ (e:AJ) k c,([XR gP]:List SC)[k]? = some c→(a5)[0+Yc aF*1+k]? = some (c.den e):=fun e k c hk=>pk k _ (Ak hk)
       refine A5 12 (aF) [XR gP] (fun _ _ _ _ _ h=>h) rfl rfl (rfl) rfl (by decide) (by kernel_rfl) (by kernel_rfl) rv (Ay.peek e4.plOk e4 2 11 rfl rfl fh [XR fH] (gr _)) (by rfl) (by rfl) (by rfl) h6 (by rfl) mb mn (by kernel_rfl) fun xj (rx:Kn _ [(f,0),(g,0),(af,ah+Yc aC*1),(ai,aj+Yc aC*1),(ak,al+(IntKind.i64.wrap (((eB.length:Nat):Int)-1):Int).toNat*1),(am,an+Yc dK*6),(ao,ap+Yc dK*1),(a8,0+(IntKind.i64.wrap (aF-1):Int).toNat*1),(a9,0+Yc aF*1),(bc,0+Yc aF*1),(bk,0+(IntKind.i64.wrap (aF-1):Int).toNat*1),(bu,0+(IntKind.i64.wrap (aF-1):Int).toNat*1),(b4,0+Yc aF*1)] ((tP 142 12 0)::(tI 141 aF)::(tS 140 ae aE.length ag)::(tI 139 fH)::(Q8 aF ae aE ag x bj y aC s eG u a cD d)) _)=>?_
       refine Dj [13] [13,12,11,10,9,8,7,6,5,4,3,2,1,0] [143,139,134,132,131,130,16,13,12,14,11,9,7,3] ((tI 143 gP)::(tI 139 fH)::(Q8 aF ae aE ag x bj y aC s eG u a cD d)) (fun _ _ _ _ _ h=>h) rx (Ay.peek (Ay.peek dz.plOk dz 2 11 rfl rfl fh [XR fH] (gr _)) dz 2 12 rfl rfl h6 [XR gP] (kk _)) (by kernel_rfl) (by rfl) (by kernel_rfl) fun aa2 ry=>?_
       obtain⟨x144,ex144,az⟩:=Ao az
       obtain⟨mc,mo,wt⟩:=Aj ex144
       have ir:=AG mc mo
       obtain⟨y5,wa,pl⟩:=AM (sz:=1) rfl bw wt
       obtain rfl:=wa
       obtain⟨ce,kf⟩:=AP dz (i:=2) rfl (b0:=0+Yc aF*1) (Y5 (Y6 (by decide)) (A3 (sz:=1) rfl bw ir))
       have ux:=dz.addPlc (b:=ce) (o:=0+Yc aF*1) (cs:=[]) (fun j c hj=>by simp at hj) rfl (by kernel_rfl) (by kernel_rfl)
       have zl:∀ (e:AJ) k c,([XR x144]:List SC)[k]? = some c→(a5)[0+Yc aF*1+k]? = some (c.den e):=fun e k c hk=>pl k _ (Ak hk)
       refine A5 14 (aF) [XR x144] (fun _ _ _ _ _ h=>h) rfl rfl (rfl) rfl (by decide) (by kernel_rfl) (by kernel_rfl) ry (Ay.peek (Ay.peek dz.plOk dz 2 11 rfl rfl fh [XR fH] (gr _)) dz 2 12 rfl rfl h6 [XR gP] (kk _)) (by rfl) (by rfl) (by rfl) kf (by rfl) mc mo (by kernel_rfl) fun m4 (rz:Kn _ (Xc f g af ah aC ai aj ak al eB am an dK ao ap a8 aF a9 bc bk bu b4 ce) ((tP 144 13 0)::(tI 143 gP)::(tI 139 fH)::(Q8 aF ae aE ag x bj y aC s eG u a cD d)) _)=>?_
       obtain⟨db,ni,az⟩:=Ao az
       obtain⟨zt,zx,mt⟩:=Cl ni
       refine CU 15 rfl (by kernel_rfl) (by decide) (rfl) (by kernel_rfl) fun K hK=>?_
       refine B4 2 13 0 (0+Yc aF*1) (.c (XR fH)) rz ux rfl rfl (by rfl) (by rfl) rfl rfl kf rfl (by kernel_rfl) (A3 (sz:=1) rfl bw ir) fun yf r0 uy=>?_
       have gs:Ae bv db (a5.take (0+Yc aF*1+0)++([.int .i64 fH]:Ye)++a5.drop (0+Yc aF*1+0+1)):=by rw [mt]; exact Df (sz:=1) rfl bw ir (Ad:rep bv (fH:Int) _)
       have l2:aE.length=db.length:=by rw [mt]; simp
       have r1:Kn 208 [(f,0),(g,0),(af,ah+Yc aC*1),(ai,aj+Yc aC*1),(ak,al+(IntKind.i64.wrap (((eB.length:Nat):Int)-1):Int).toNat*1),(am,an+Yc dK*6),(ao,ap+Yc dK*1),(a8,0+(IntKind.i64.wrap (aF-1):Int).toNat*1),(a9,0+Yc aF*1),(bc,0+Yc aF*1),(bk,0+(IntKind.i64.wrap (aF-1):Int).toNat*1),(bu,0+(IntKind.i64.wrap (aF-1):Int).toNat*1),(b4,0+Yc aF*1),(ce,0+Yc aF*1)] [(144,.one (.c (.ptr 13 0))),(143,.one (.c (XR gP))),(139,.one (.c (XR fH))),(134,.one (.c (XR (IntKind.i64.wrap (aF-1))))),(132,.one (.c (Yb ae db.length ag))),(131,.one (.c (XR aF))),(130,.one (.c (Yb ae db.length ag))),(16,.one (.c (XR aF))),(13,.one (.c (Yb ae db.length ag))),(12,.one (.c (Yb x bj.length y))),(14,.one (.c (XR aC))),(11,.one (.c (Yb s eG.length u))),(9,.one (.c (.ptr 1 0))),(7,.one (.c (Yb a cD.1.length d))),(3,.one (.c (.ptr 0 0)))] m4:=by rw [← l2]; exact r0
       have i1:Ai ⟨w,h,BF⟩ bv [(f,0),(g,0),(af,ah+Yc aC*1),(ai,aj+Yc aC*1),(ak,al+(IntKind.i64.wrap (((eB.length:Nat):Int)-1):Int).toNat*1),(am,an+Yc dK*6),(ao,ap+Yc dK*1),(a8,0+(IntKind.i64.wrap (aF-1):Int).toNat*1),(a9,0+Yc aF*1),(bc,0+Yc aF*1),(bk,0+(IntKind.i64.wrap (aF-1):Int).toNat*1),(bu,0+(IntKind.i64.wrap (aF-1):Int).toNat*1),(b4,0+Yc aF*1),(ce,0+Yc aF*1)] [⟨[XR t_.places,XR t_.layover,Yb p t_.empty.length q,Yb l t_.trips.length m],some 25⟩,⟨[Yb aa cO.1.room.length ac,Yb ab cO.1.lG.length ad,XR cO.1.broken],some 41⟩,⟨[Yb a6 eZ.length a7],none⟩,⟨[Yb bf eB.length bg],none⟩,⟨[XR dK],none⟩,⟨[XR dZ.fr,XR dZ.to_,XR dZ.start,XR dZ.least,XR dZ.most,XR dZ.kind],none⟩,⟨[XR eT],none⟩,⟨[],none⟩,⟨[],none⟩,⟨[],none⟩,⟨[],none⟩,⟨[],none⟩,⟨[],none⟩,⟨[],none⟩] [⟨a2,cG.length,a3,3,1,a1,a4⟩,⟨x,bj.length,y,3,1,(ay.take (0+Yc aF*1+0)++([.int .i64 eV]:Ye)++ay.drop (0+Yc aF*1+0+1)).take (0+(IntKind.i64.wrap (aF-1):Int).toNat*1+0)++([.int .i64 gI]:Ye)++(ay.take (0+Yc aF*1+0)++([.int .i64 eV]:Ye)++ay.drop (0+Yc aF*1+0+1)).drop (0+(IntKind.i64.wrap (aF-1):Int).toNat*1+0+1),0⟩,⟨ae,db.length,ag,3,1,a5.take (0+Yc aF*1+0)++([.int .i64 fH]:Ye)++a5.drop (0+Yc aF*1+0+1),0⟩,⟨cp,1,cq,3,1,co,0⟩,⟨bt,1,1,3,1,([.int .i64 (IntKind.i64.wrap (dZ.start+eT))]:Ye),0⟩] yf:=by rw [← l2]; exact uy
       refine hK _ _ ?_
       refine Ax [] (Xc f g af ah aC ai aj ak al eB am an dK ao ap a8 aF a9 bc bk bu b4 ce) [⟨NW t_ p q l m,some 25⟩,⟨Hr aa cO ac ab ad,some 41⟩,⟨[Yb a6 eZ.length a7],none⟩,⟨[Yb bf eB.length bg],none⟩,⟨[XR dK],none⟩,⟨VU dZ,none⟩,⟨[XR eT],none⟩,⟨[],none⟩,⟨[],none⟩,⟨[],none⟩,⟨[],none⟩,⟨[],none⟩,⟨[],none⟩,⟨[],none⟩] ?_
       obtain⟨x145,ex145,az⟩:=Ao az
       obtain⟨md,mp,wu⟩:=Aj ex145
       have iu:=AG md mp
       obtain⟨y6,wd,pm⟩:=AM (sz:=1) rfl gs wu
       obtain rfl:=wd
       obtain⟨d2,kg⟩:=AP i1 (i:=2) rfl (b0:=0+(IntKind.i64.wrap (aF-1):Int).toNat*1) (Y5 (Y6 (by decide)) (A3 (sz:=1) rfl gs iu))
       have uz:=i1.addPlc (b:=d2) (o:=0+(IntKind.i64.wrap (aF-1):Int).toNat*1) (cs:=[]) (fun j c hj=>by simp at hj) rfl (by kernel_rfl) (by kernel_rfl)
       have zm:∀ (e:AJ) k c,([XR x145]:List SC)[k]? = some c→((a5.take (0+Yc aF*1+0)++([.int .i64 fH]:Ye)++a5.drop (0+Yc aF*1+0+1)))[0+(IntKind.i64.wrap (aF-1):Int).toNat*1+k]? = some (c.den e):=fun e k c hk=>pm k _ (Ak hk)
       refine A5 16 (IntKind.i64.wrap (aF-1)) [XR x145] (fun _ _ _ _ _ h=>h) rfl rfl (rfl) rfl (by decide) (by kernel_rfl) (by kernel_rfl) r1 i1.plOk (by rfl) (by rfl) (by rfl) kg (by rfl) md mp (by kernel_rfl) fun jw (r2:Kn _ (XG f g af ah aC ai aj ak al eB am an dK ao ap a8 aF a9 bc bk bu b4 ce d2) ((tP 145 14 0)::(tP 144 13 0)::(tI 143 gP)::(tI 139 fH)::(tI 134 (IntKind.i64.wrap (aF-1)))::(tS 132 ae db.length ag)::(tI 131 aF)::(tS 130 ae db.length ag)::(tI 16 aF)::(tS 13 ae db.length ag)::(tS 12 x bj.length y)::(tI 14 aC)::(CX s eG u a cD d)) _)=>?_
       obtain⟨dj,nj,az⟩:=Ao az
       obtain⟨zu,zy,mu⟩:=Cl nj
       refine CU 17 rfl (by kernel_rfl) (by decide) (rfl) (by kernel_rfl) fun K hK=>?_
       refine B4 2 14 0 (0+(IntKind.i64.wrap (aF-1):Int).toNat*1) (.c (XR gP)) r2 uz rfl rfl (by rfl) (by rfl) rfl rfl kg rfl (by kernel_rfl) (A3 (sz:=1) rfl gs iu) fun yg r3 u0=>?_
       have pn:Ae bv dj ((a5.take (0+Yc aF*1+0)++([.int .i64 fH]:Ye)++a5.drop (0+Yc aF*1+0+1)).take (0+(IntKind.i64.wrap (aF-1):Int).toNat*1+0)++([.int .i64 gP]:Ye)++(a5.take (0+Yc aF*1+0)++([.int .i64 fH]:Ye)++a5.drop (0+Yc aF*1+0+1)).drop (0+(IntKind.i64.wrap (aF-1):Int).toNat*1+0+1)):=by rw [mu]; exact Df (sz:=1) rfl gs iu (Ad:rep bv (gP:Int) _)
       have l3:db.length=dj.length:=by rw [mu]; simp
       have r5:Kn 208 [(f,0),(g,0),(af,ah+Yc aC*1),(ai,aj+Yc aC*1),(ak,al+(IntKind.i64.wrap (((eB.length:Nat):Int)-1):Int).toNat*1),(am,an+Yc dK*6),(ao,ap+Yc dK*1),(a8,0+(IntKind.i64.wrap (aF-1):Int).toNat*1),(a9,0+Yc aF*1),(bc,0+Yc aF*1),(bk,0+(IntKind.i64.wrap (aF-1):Int).toNat*1),(bu,0+(IntKind.i64.wrap (aF-1):Int).toNat*1),(b4,0+Yc aF*1),(ce,0+Yc aF*1),(d2,0+(IntKind.i64.wrap (aF-1):Int).toNat*1)] [(145,.one (.c (.ptr 14 0))),(144,.one (.c (.ptr 13 0))),(143,.one (.c (XR gP))),(139,.one (.c (XR fH))),(134,.one (.c (XR (IntKind.i64.wrap (aF-1))))),(132,.one (.c (Yb ae dj.length ag))),(131,.one (.c (XR aF))),(130,.one (.c (Yb ae dj.length ag))),(16,.one (.c (XR aF))),(13,.one (.c (Yb ae dj.length ag))),(12,.one (.c (Yb x bj.length y))),(14,.one (.c (XR aC))),(11,.one (.c (Yb s eG.length u))),(9,.one (.c (.ptr 1 0))),(7,.one (.c (Yb a cD.1.length d))),(3,.one (.c (.ptr 0 0)))] jw:=by rw [← l3]; exact r3
       have lb:Ai ⟨w,h,BF⟩ bv [(f,0),(g,0),(af,ah+Yc aC*1),(ai,aj+Yc aC*1),(ak,al+(IntKind.i64.wrap (((eB.length:Nat):Int)-1):Int).toNat*1),(am,an+Yc dK*6),(ao,ap+Yc dK*1),(a8,0+(IntKind.i64.wrap (aF-1):Int).toNat*1),(a9,0+Yc aF*1),(bc,0+Yc aF*1),(bk,0+(IntKind.i64.wrap (aF-1):Int).toNat*1),(bu,0+(IntKind.i64.wrap (aF-1):Int).toNat*1),(b4,0+Yc aF*1),(ce,0+Yc aF*1),(d2,0+(IntKind.i64.wrap (aF-1):Int).toNat*1)] [⟨[XR t_.places,XR t_.layover,Yb p t_.empty.length q,Yb l t_.trips.length m],some 25⟩,⟨[Yb aa cO.1.room.length ac,Yb ab cO.1.lG.length ad,XR cO.1.broken],some 41⟩,⟨[Yb a6 eZ.length a7],none⟩,⟨[Yb bf eB.length bg],none⟩,⟨[XR dK],none⟩,⟨[XR dZ.fr,XR dZ.to_,XR dZ.start,XR dZ.least,XR dZ.most,XR dZ.kind],none⟩,⟨[XR eT],none⟩,⟨[],none⟩,⟨[],none⟩,⟨[],none⟩,⟨[],none⟩,⟨[],none⟩,⟨[],none⟩,⟨[],none⟩,⟨[],none⟩] [⟨a2,cG.length,a3,3,1,a1,a4⟩,⟨x,bj.length,y,3,1,(ay.take (0+Yc aF*1+0)++([.int .i64 eV]:Ye)++ay.drop (0+Yc aF*1+0+1)).take (0+(IntKind.i64.wrap (aF-1):Int).toNat*1+0)++([.int .i64 gI]:Ye)++(ay.take (0+Yc aF*1+0)++([.int .i64 eV]:Ye)++ay.drop (0+Yc aF*1+0+1)).drop (0+(IntKind.i64.wrap (aF-1):Int).toNat*1+0+1),0⟩,⟨ae,dj.length,ag,3,1,(a5.take (0+Yc aF*1+0)++([.int .i64 fH]:Ye)++a5.drop (0+Yc aF*1+0+1)).take (0+(IntKind.i64.wrap (aF-1):Int).toNat*1+0)++([.int .i64 gP]:Ye)++(a5.take (0+Yc aF*1+0)++([.int .i64 fH]:Ye)++a5.drop (0+Yc aF*1+0+1)).drop (0+(IntKind.i64.wrap (aF-1):Int).toNat*1+0+1),0⟩,⟨cp,1,cq,3,1,co,0⟩,⟨bt,1,1,3,1,([.int .i64 (IntKind.i64.wrap (dZ.start+eT))]:Ye),0⟩] yg:=by rw [← l3]; exact u0
       refine hK _ _ ?_
       have r6:Kn _ _ ((tI 16 aF)::(tS 13 ae dj.length ag)::(tS 12 x bj.length y)::(tI 14 aC)::(CX s eG u a cD d)) _:=r5.kp
       refine Iv (by kernel_rfl) (Aa (Rk 0 3 ((tI 16 (IntKind.i64.wrap (aF-1)))::(tS 13 ae dj.length ag)::(tS 12 x bj.length y)::(tI 14 aC)::(CX s eG u a cD d)) r6 lb fun aa3 r7=>?_))
       refine wf ?_
       exact XY jm ⟨Y4 _,XY bj ⟨dj,IntKind.i64.wrap (aF-1),x,y,(ay.take (0+Yc aF*1+0)++([.int .i64 eV]:Ye)++ay.drop (0+Yc aF*1+0+1)).take (0+(IntKind.i64.wrap (aF-1):Int).toNat*1+0)++([.int .i64 gI]:Ye)++(ay.take (0+Yc aF*1+0)++([.int .i64 eV]:Ye)++ay.drop (0+Yc aF*1+0+1)).drop (0+(IntKind.i64.wrap (aF-1):Int).toNat*1+0+1),ae,ag,(a5.take (0+Yc aF*1+0)++([.int .i64 fH]:Ye)++a5.drop (0+Yc aF*1+0+1)).take (0+(IntKind.i64.wrap (aF-1):Int).toNat*1+0)++([.int .i64 gP]:Ye)++(a5.take (0+Yc aF*1+0)++([.int .i64 fH]:Ye)++a5.drop (0+Yc aF*1+0+1)).drop (0+(IntKind.i64.wrap (aF-1):Int).toNat*1+0+1),_,_,rfl,(r7.keep [16,13,12,14,11,9,7,3] (by rfl)).cut 7 (by kernel_rfl),lb.cutPl 7 (by kernel_rfl),XU ch g0,pi,pn,az⟩⟩
      rw [Bb ia] at az
      refine wp_exit ?_
      obtain rfl:=XZ az
      exact XY x ⟨y,ay,ae,ag,a5,_,_,rfl,ik.kp,ea,XU ch g0,ct,bw⟩
     rintro _ act ⟨e6,fb,hs,e7,fc,ht,js,ff,rfl,r8,lc,uj,o9,pa⟩
     refine Aa (Rk 0 3 ((tI 14 (IntKind.i64.wrap (aC+1)))::(tS 13 e7 cw.2.length fc)::(tS 12 e6 cw.1.length fb)::(CX s eG u a cD d)) r8 lc fun aa4 r9=>?_)
     refine wf ?_
     exact XY hr ⟨Y4 _,XY cw.1 ⟨cw.2,IntKind.i64.wrap (aC+1),e6,fb,hs,e7,fc,ht,_,_,rfl,(r9.keep [14,13,12,11,9,7,3] (by rfl)).cut 2 (by kernel_rfl),(lc.cutRw 3).cutPl 2 (by kernel_rfl),XU dg (XU cu uj),o9,pa,bh⟩⟩
    refine BT (XQ 208 ⟨w,h,BF⟩ (FH f g af ah aC ai aj ak al eB am an dK ao ap) (Ig t_ p q l m aa cO ac ab ad a6 eZ a7 bf eB bg dK dZ eT) (Ig t_ p q l m aa cO ac ab ad a6 eZ a7 bf eB bg dK dZ eT) [] [⟨2,81,3,1,1,[XR aC]⟩,⟨16,95,3,1,1,P7 dZ eT⟩] [15,14,13,12,11,10,9,8,7,6,5,4,1,0] (fun mm om rw=>mm=((tI 94 (IntKind.i64.wrap (dZ.start+eT)))::(tS 83 av aA.length aw)::(tI 80 aC)::(tS 79 ba aB.length bd)::(tI 14 aC)::(CX s eG u a cD d))∧rw=[⟨a2,cG.length,a3,3,1,a1,a4⟩,⟨ba,aB.length,bd,3,1,cn,0⟩,⟨av,aA.length,aw,3,1,ca,0⟩]∧Ac.le df om)) ?_ (fun ww=>?_)
    ·
     refine Qn (Ub [(3,[true,false])] ?_ (fun _ _ _ hm=>hm.plOk) (by kernel_rfl) (by kernel_rfl) ⟨?_,trivial⟩)
     ·
      rintro _ _ _ ⟨rfl,rfl,_⟩
      exact⟨⟨⟨_,_,_,rfl,rfl,rfl,rfl,rfl,by rfl,by rfl,by rfl,rfl,by kernel_rfl⟩,⟨⟨_,_,_,rfl,rfl,rfl,rfl,rfl,by rfl,by rfl,by rfl,rfl,by kernel_rfl⟩,trivial⟩⟩,by kernel_rfl⟩
     intro y8 za xl gj z2 z4 yh ok nv mq nx fx ha
     obtain⟨j4,d4,rfl⟩:=XC ok
     obtain⟨d1,ga,rfl⟩:=XC nv
     obtain rfl:j4=true:=by cases j4 <;> first | rfl | exact(Bool.false_ne_true mq).elim
     obtain⟨rfl,rfl,k2⟩:=nx
     replace gm:=gm.mono k2
     replace fx:=fx.req [true,false] (by kernel_rfl) mq rfl
     have gu:Ae gj ([aC]:List Int) ([.int .i64 aC]:Ye):=⟨_,_,rfl,(Ad:rep gj (aC:Int) _),rfl⟩
     replace fx:Kn _ _ ([tI 94 (IntKind.i64.wrap (dZ.start+eT)),tS 83 av aA.length aw,tI 80 aC,tS 79 ba aB.length bd,tI 14 aC,tS 11 s eG.length u,tP 9 1 0,tS 7 a cD.1.length d,tP 3 0 0,tS 81 d1 1 1]++FI [⟨2,81,3,1,1,[XR aC]⟩,⟨16,95,3,1,1,P7 dZ eT⟩] [true,d4] [d1,ga]) _:=fx
     replace ha:Ai _ _ (FH f g af ah aC ai aj ak al eB am an dK ao ap) (Ig t_ p q l m aa cO ac ab ad a6 eZ a7 bf eB bg dK dZ eT) [⟨a2,cG.length,a3,3,1,a1,a4⟩,⟨ba,aB.length,bd,3,1,cn,0⟩,⟨av,aA.length,aw,3,1,ca,0⟩,⟨d1,1,1,3,1,([.int .i64 aC]:Ye),0⟩,XH (FH f g af ah aC ai aj ak al eB am an dK ao ap) ⟨16,95,3,1,1,P7 dZ eT⟩ d4 ga] _:=ha
     refine⟨_,rfl,rfl,fun K hK=>?_⟩
     obtain⟨jf,ua⟩:=Bj ex82
     refine AS 1 8 1 _ (jB.length) _ ([.int .i64 aC]:Ye) fx ha rfl rfl (by decide) rfl (by rfl) (by kernel_rfl) (by rfl) (by rfl) (Ae.len gu) (ha.rowCell (i:=3) rfl) gu.one (by rw [jf]; simp <;> omega) (by rw [jf]; exact ua) (by decide) fun hu hw nm xm acu pw (sc:Kn _ (FH f g af ah aC ai aj ak al eB am an dK ao ap) ([tS 82 hu jB.length hw,tI 94 (IntKind.i64.wrap (dZ.start+eT)),tS 83 av aA.length aw,tI 80 aC,tS 79 ba aB.length bd,tI 14 aC,tS 11 s eG.length u,tP 9 1 0,tS 7 a cD.1.length d,tP 3 0 0,tS 81 d1 1 1]++FI [⟨2,81,3,1,1,[XR aC]⟩,⟨16,95,3,1,1,P7 dZ eT⟩] [true,d4] [d1,ga]) _) ld=>?_
     have po:Ae gj jB (cn++([.int .i64 aC]:Ye)):=by rw [jf]; exact Ae.append gm gu
     obtain rfl:nm=0:=Nat.le_zero.1 pw
     refine hK _ _ ld.plOk ?_
     refine AK (VM [⟨16,95,3,1,1,P7 dZ eT⟩] [d4]++[3,2,15,14,13,12,11,10,9,8,7,6,5,4,1,0]) (by cases d4 <;> kernel_rfl) (by cases d4 <;> rfl) (wv [d4] _ _ ⟨[ga],_,_,_,[⟨a2,cG.length,a3,3,1,a1,a4⟩,⟨hu,jB.length,hw,3,1,cn++([.int .i64 aC]:Ye),0⟩,⟨av,aA.length,aw,3,1,ca,0⟩,⟨d1,1,1,3,1,([.int .i64 aC]:Ye),0⟩],rfl,rfl,rfl,⟨hu,hw,cn++([.int .i64 aC]:Ye),d1,1,([.int .i64 aC]:Ye),rfl,rfl,k2,po,gu⟩,sc.next [false,true] _ (by kernel_rfl) (by rfl) (by kernel_rfl),ld.pickRows [0,1,2,3,4] (by kernel_rfl) (by kernel_rfl)⟩)
    exact ww [false,false] _ _ ⟨[none,none],_,_,((tI 94 (IntKind.i64.wrap (dZ.start+eT)))::(tS 83 av aA.length aw)::(tI 80 aC)::(tS 79 ba aB.length bd)::(tI 14 aC)::(CX s eG u a cD d)),[⟨a2,cG.length,a3,3,1,a1,a4⟩,⟨ba,aB.length,bd,3,1,cn,0⟩,⟨av,aA.length,aw,3,1,ca,0⟩],rfl,rfl,rfl,⟨rfl,rfl,Ac.le_refl _⟩,qz.kp,ur⟩
   rw [h9,XV] at bh
   refine wp_exit ?_
   obtain rfl:=XZ bh
   exact XY ba ⟨bd,cn,av,aw,ca,_,_,rfl,ij.kp,d9,dg,gm,gn⟩
  rintro _ acv ⟨ar,au,aq,cc,cf,cb,jq,eo,rfl,sd,i2,ex,bn,go⟩
  replace bl:=bl.mono ex
  replace bm:=bm.mono ex
  refine XT (Aa (Rk 0 1 [tA 147 (Hr aa cO ac ab ad),tS 12 ar z.1.length au,tP 9 1 0,tS 7 a cD.1.length d] sd i2 fun aa7 se=>?_))
  obtain⟨gQ,ex148,H⟩:=Ao H
  refine wl fun K hK=>?_
  refine wc [.agg (Hr aa cO ac ab ad)] se i2 (H4 n i2.has cO.1 ((Ab (Af bl) (Ab (Af bm) Ad)):rep eo cO.1 _) ex148) fun ab4 oo acw n4 dw lf=>?_
  obtain⟨_,rfl,⟨_,_,rfl,⟨f6,gd,rfl,vc⟩,⟨_,_,rfl,⟨f7,gf,rfl,vd⟩,rfl⟩⟩⟩:=n4
  refine⟨.one (.agg [Yb f6 gQ.room.length gd,Yb f7 gQ.lG.length gf,XR gQ.broken]),rfl,fun xn (sf:Kn _ [(f,0),(g,0)] [tA 148 [Yb f6 gQ.room.length gd,Yb f7 gQ.lG.length gf,XR gQ.broken],tA 147 (Hr aa cO ac ab ad),tS 12 ar z.1.length au,tP 9 1 0,tS 7 a cD.1.length d] _)=>hK _ _ ?_⟩
  obtain⟨cZ,ex149,H⟩:=Ao H
  refine wl fun K hK=>?_
  refine wc [.agg [Yb f6 gQ.room.length gd,Yb f7 gQ.lG.length gf,XR gQ.broken]] sf lf (Mr n lf.has gQ ((Ab (Af vc) (Ab (Af vd) Ad)):rep oo gQ _) ex149) fun ab5 oq acx n5 dx hb=>?_
  replace bl:=bl.mono (XU dw dx)
  replace bm:=bm.mono (XU dw dx)
  obtain⟨_,_,_,rfl,⟨bb,be,rfl,d0⟩,rfl,rfl⟩:=n5
  refine⟨.tup [.c (Yb bb cZ.1.length be),.c (XR cZ.2.1),.c (XR cZ.2.2)],rfl,fun xo (sg:Kn _ [(f,0),(g,0)] [(149,.tup [.c (Yb bb cZ.1.length be),.c (XR cZ.2.1),.c (XR cZ.2.2)]),tA 148 [Yb f6 gQ.room.length gd,Yb f7 gQ.lG.length gf,XR gQ.broken],tA 147 (Hr aa cO ac ab ad),tS 12 ar z.1.length au,tP 9 1 0,tS 7 a cD.1.length d] _)=>hK _ _ ?_⟩
  refine Rk 3 7 ((tI 19 cZ.2.2)::(GE cZ bb be ar z au a cD d)) sg hb fun aa8 sh=>?_
  refine wf (XT (XT (Aa (Rk 0 1 ((tA 153 (Hr aa cO ac ab ad))::(tI 19 cZ.2.2)::(GE cZ bb be ar z au a cD d)) sh hb fun aa9 si=>?_))))
  obtain⟨iW,ex154,H⟩:=Ao H
  refine wl fun K hK=>?_
  refine wc [.agg (Hr aa cO ac ab ad)] si hb (H4 n hb.has cO.1 ((Ab (Af bl) (Ab (Af bm) Ad)):rep oq cO.1 _) ex154) fun ab6 hy yi n7 dh lg=>?_
  replace bn:=bn.mono (XU (XU dw dx) dh)
  obtain⟨_,rfl,⟨_,_,rfl,⟨dl,dr,rfl,i5⟩,⟨_,_,rfl,⟨dm,ds,rfl,i6⟩,rfl⟩⟩⟩:=n7
  refine⟨.one (.agg (Mh dl iW dr dm ds)),rfl,fun xp (sj:Kn _ [(f,0),(g,0)] ((tA 154 (Mh dl iW dr dm ds))::(tA 153 (Hr aa cO ac ab ad))::(tI 19 cZ.2.2)::(GE cZ bb be ar z au a cD d)) _)=>hK _ _ ?_⟩
  refine Rk 2 1 ((tS 155 ar z.1.length au)::(tA 154 (Mh dl iW dr dm ds))::(tI 19 cZ.2.2)::(GE cZ bb be ar z au a cD d)) sj lg fun aba sk=>?_
  have lh:Ai _ _ [(f,0),(g,0)] (Gy t_ p q l m aa cO ac ab ad) [⟨a2,cG.length,a3,3,1,a1,a4⟩,⟨ar,z.1.length,au,3,1,aq,0⟩,⟨cc,z.2.length,cf,3,1,cb,0⟩,⟨none,0,0,3,1,[],0⟩] _:=lg.nilRow 3 1
  have pp:Ae hy ([]:List Int) []:=Ae.nil
  obtain⟨gC,ex156,H⟩:=Ao H
  obtain⟨jg,ub⟩:=Bj ex156
  refine wl fun K hK=>?_
  refine AS 3 8 z.1.length _ (gC.length) _ aq sk lh rfl rfl (by decide) rfl (by rfl) (by kernel_rfl) (by rfl) (by rfl) (Ae.len bn) (lh.rowCell (i:=1) rfl) bn.one (by rw [jg]; simp <;> omega) (by rw [jg]; exact ub) (by decide) fun b3 b6 nn xq yj px (sl:Kn _ [(f,0),(g,0)] ((tS 156 b3 gC.length b6)::(tS 155 ar z.1.length au)::(tA 154 (Mh dl iW dr dm ds))::(tI 19 cZ.2.2)::(GE cZ bb be ar z au a cD d)) _) lj=>?_
  have d6:Ae hy gC ([]++aq):=by rw [jg]; exact Ae.append pp bn
  obtain rfl:nn=0:=Nat.le_zero.1 px
  refine hK _ _ ?_
  obtain⟨hz,cl,vm,hc⟩:=lj.settle (i:=3) rfl
  replace i5:=i5.mono cl
  replace i6:=i6.mono cl
  replace d6:=d6.mono cl
  replace hc:Ai _ _ [(f,0),(g,0)] (Gy t_ p q l m aa cO ac ab ad) [⟨a2,cG.length,a3,3,1,a1,a4⟩,⟨ar,z.1.length,au,3,1,aq,0⟩,⟨cc,z.2.length,cf,3,1,cb,0⟩,⟨b3,gC.length,b6,3,1,[]++aq,_⟩] _:=hc
  have f3:At hz b3 b6 gC:=⟨_,d6,vm,lj.rowCap (i:=3) rfl⟩
  obtain⟨kJ,ex157,H⟩:=Ao H
  refine wl fun K hK=>?_
  refine wc [.agg (Mh dl iW dr dm ds),.c (Yb b3 gC.length b6)] sl hc (KW n hc.has iW ((Ab (Af i5) (Ab (Af i6) Ad)):rep hz iW _) gC f3 ex157) fun ab7 j8 acz n8 cv cm=>?_
  replace bl:=bl.mono (XU (XU dh cl) cv)
  replace bm:=bm.mono (XU (XU dh cl) cv)
  replace d0:=d0.mono (XU (XU dh cl) cv)
  replace bn:=bn.mono (XU cl cv)
  obtain rfl:=n8
  refine⟨.one (.c (.bool kJ)),rfl,fun xr (sm:Kn _ [(f,0),(g,0)] ((tB 157 kJ)::(tS 156 b3 gC.length b6)::(tS 155 ar z.1.length au)::(tA 154 (Mh dl iW dr dm ds))::(tI 19 cZ.2.2)::(GE cZ bb be ar z au a cD d)) _)=>hK _ _ ?_⟩
  refine Rk 5 1 ((tB 158 (!kJ))::(tI 19 cZ.2.2)::(GE cZ bb be ar z au a cD d)) sm cm fun abb im=>?_
  refine wf (wC ((!kJ)) im (fun ic=>?_) (fun ic=>?_))
  ·
   rw [ic,XW] at H
   refine XT (Aa (Rk 0 1 [tB 6 false] im cm fun abc sn=>?_))
   refine wf (wp_ret ?_)
   obtain rfl:=XZ H
   exact rt (.one (.c (.bool false))) sn cm rfl
  rw [ic,XV] at H
  refine wp_skip (XT (XT (Aa (Rk 0 2 ((tB 160 (cZ.2.2 != 0))::(tI 19 cZ.2.2)::(GE cZ bb be ar z au a cD d)) im cm fun abd io=>?_))))
  refine wf (wC ((cZ.2.2 != 0)) io (fun ie=>?_) (fun ie=>?_))
  ·
   rw [ie,XW] at H
   refine XT ?_
   obtain⟨my,el,H⟩:=Ao H
   refine Ar (fun a' w'=>∃ (jx:Array Value)(h0:Ac),a' = ⟨jx,[]⟩∧Kn 208 [(f,0),(g,0)] [tB 6 my] jx∧Ai ⟨w,h,BF⟩ h0 [(f,0),(g,0)] (Gy t_ p q l m aa cO ac ab ad) [⟨a2,cG.length,a3,3,1,a1,a4⟩,⟨ar,z.1.length,au,3,1,aq,0⟩,⟨cc,z.2.length,cf,3,1,cb,0⟩,⟨b3,gC.length,b6,3,1,[]++aq,(([]++aq):Ye).length⟩] w'∧Ac.le j8 h0) ?_ ?_
   ·
    refine Aa (Rk 0 3 [tB 163 (cZ.2.2 == 9)] io cm fun m5 kt=>?_)
    rcases Y2 ((cZ.2.2 == 9)) with fk | fk
    ·
     rw [fk,XW] at el
     have ku:Kn _ _ [tB 163 true] _:=(kt.setB 163 true (by rfl) fk).kp
     obtain⟨kR,ex164,el⟩:=Ao el
     refine AD _ rfl (Al ku (by kernel_rfl)) fun K hK=>?_
     refine wc [] ku cm (GM n cm.has  ex164) fun ab8 zf ac0 n9 uk lk=>?_
     obtain rfl:=n9
     refine⟨.one (.c (.bool kR)),rfl,fun xs (sp:Kn _ [(f,0),(g,0)] [tB 164 kR,tB 163 true] _)=>hK _ _ ?_⟩
     refine Rk 4 2 [tB 6 kR] sp lk fun abe sq=>?_
     refine wf ?_
     obtain rfl:=XZ el
     exact XY _ ⟨_,rfl,sq.kp,lk,uk⟩
    rw [fk,XV] at el
    have sr:Kn _ _ [tB 163 false] _:=(kt.setB 163 false (by rfl) fk).kp
    refine Rk 3 3 [tB 6 false] sr cm fun abf ss=>?_
    refine wf ?_
    obtain rfl:=XZ el
    exact XY _ ⟨_,rfl,ss.kp,cm,Ac.le_refl _⟩
   rintro _ ac1 ⟨jx,h0,rfl,st,u1,zp⟩
   refine wp_ret ?_
   obtain rfl:=XZ H
   exact rt (.one (.c (.bool my))) st u1 rfl
  rw [ie,XV] at H
  refine wp_skip (XT (Aa (Rk 0 1 ((tA 167 (Hr aa cO ac ab ad))::(GE cZ bb be ar z au a cD d)) io cm fun abg su=>?_)))
  obtain⟨iJ,ex168,H⟩:=Ao H
  refine wl fun K hK=>?_
  refine wc [.agg (Hr aa cO ac ab ad)] su cm (H4 n cm.has cO.1 ((Ab (Af bl) (Ab (Af bm) Ad)):rep j8 cO.1 _) ex168) fun ab9 es yk oa c9 ll=>?_
  replace d0:=d0.mono c9
  replace bn:=bn.mono c9
  obtain⟨_,rfl,⟨_,_,rfl,⟨cx,c3,rfl,i7⟩,⟨_,_,rfl,⟨cy,c4,rfl,i8⟩,rfl⟩⟩⟩:=oa
  refine⟨.one (.agg (Mh cx iJ c3 cy c4)),rfl,fun xt (sv:Kn _ [(f,0),(g,0)] ((tA 168 (Mh cx iJ c3 cy c4))::(tA 167 (Hr aa cO ac ab ad))::(GE cZ bb be ar z au a cD d)) _)=>hK _ _ ?_⟩
  refine Rk 2 1 ((tS 169 bb cZ.1.length be)::(tA 168 (Mh cx iJ c3 cy c4))::(GE cZ bb be ar z au a cD d)) sv ll fun abh sw=>?_
  have lm:Ai _ _ [(f,0),(g,0)] (Gy t_ p q l m aa cO ac ab ad) [⟨a2,cG.length,a3,3,1,a1,a4⟩,⟨ar,z.1.length,au,3,1,aq,0⟩,⟨cc,z.2.length,cf,3,1,cb,0⟩,⟨b3,gC.length,b6,3,1,[]++aq,_⟩,⟨none,0,0,3,1,[],0⟩] _:=ll.nilRow 3 1
  have pq:Ae es ([]:List Int) []:=Ae.nil
  obtain⟨b1,gw,vu,_⟩:=id d0
  obtain⟨gJ,ex170,H⟩:=Ao H
  obtain⟨jh,uc⟩:=Bj ex170
  refine wl fun K hK=>?_
  refine AS 4 8 cZ.1.length _ (gJ.length) _ b1 sw lm rfl rfl (by decide) rfl (by rfl) (by kernel_rfl) (by rfl) (by rfl) (Ae.len gw) (vu.cell lm.has gw.one) gw.one (by rw [jh]; simp <;> omega) (by rw [jh]; exact uc) (by decide) fun cd cg np xv yl py (sy:Kn _ [(f,0),(g,0)] ((tS 170 cd gJ.length cg)::(tS 169 bb cZ.1.length be)::(tA 168 (Mh cx iJ c3 cy c4))::(GE cZ bb be ar z au a cD d)) _) ln=>?_
  have fs:Ae es gJ ([]++b1):=by rw [jh]; exact Ae.append pq gw
  obtain rfl:np=0:=Nat.le_zero.1 py
  refine hK _ _ ?_
  refine Rk 4 1 ((tS 171 ar z.1.length au)::(tS 170 cd gJ.length cg)::(tA 168 (Mh cx iJ c3 cy c4))::(GE cZ bb be ar z au a cD d)) sy ln fun abi s0=>?_
  have lo:Ai _ _ [(f,0),(g,0)] (Gy t_ p q l m aa cO ac ab ad) [⟨a2,cG.length,a3,3,1,a1,a4⟩,⟨ar,z.1.length,au,3,1,aq,0⟩,⟨cc,z.2.length,cf,3,1,cb,0⟩,⟨b3,gC.length,b6,3,1,[]++aq,_⟩,⟨cd,gJ.length,cg,3,1,[]++b1,0⟩,⟨none,0,0,3,1,[],0⟩] _:=ln.nilRow 3 1
  have pr:Ae es ([]:List Int) []:=Ae.nil
  obtain⟨gU,ex172,H⟩:=Ao H
  obtain⟨ji,ud⟩:=Bj ex172
  refine wl fun K hK=>?_
  refine AS 5 8 z.1.length _ (gU.length) _ aq s0 lo rfl rfl (by decide) rfl (by rfl) (by kernel_rfl) (by rfl) (by rfl) (Ae.len bn) (lo.rowCell (i:=1) rfl) bn.one (by rw [ji]; simp <;> omega) (by rw [ji]; exact ud) (by decide) fun cz c5 nq xw nd pz (s1:Kn _ [(f,0),(g,0)] ((tS 172 cz gU.length c5)::(tS 171 ar z.1.length au)::(tS 170 cd gJ.length cg)::(tA 168 (Mh cx iJ c3 cy c4))::(GE cZ bb be ar z au a cD d)) _) lp=>?_
  have ft:Ae es gU ([]++aq):=by rw [ji]; exact Ae.append pr bn
  obtain rfl:nq=0:=Nat.le_zero.1 pz
  refine hK _ _ ?_
  obtain⟨ka,b7,vn,hd⟩:=lp.settle (i:=4) rfl
  replace fs:=fs.mono b7
  replace hd:Ai _ _ [(f,0),(g,0)] (Gy t_ p q l m aa cO ac ab ad) [⟨a2,cG.length,a3,3,1,a1,a4⟩,⟨ar,z.1.length,au,3,1,aq,0⟩,⟨cc,z.2.length,cf,3,1,cb,0⟩,⟨b3,gC.length,b6,3,1,[]++aq,_⟩,⟨cd,gJ.length,cg,3,1,[]++b1,_⟩,⟨cz,gU.length,c5,3,1,[]++aq,0⟩] _:=hd
  have f4:At ka cd cg gJ:=⟨_,fs,vn,lp.rowCap (i:=4) rfl⟩
  obtain⟨h1,bx,vo,he⟩:=hd.settle (i:=5) rfl
  replace i7:=i7.mono (XU b7 bx)
  replace i8:=i8.mono (XU b7 bx)
  replace f4:=f4.mono bx
  replace ft:=ft.mono (XU b7 bx)
  replace he:Ai _ _ [(f,0),(g,0)] (Gy t_ p q l m aa cO ac ab ad) [⟨a2,cG.length,a3,3,1,a1,a4⟩,⟨ar,z.1.length,au,3,1,aq,0⟩,⟨cc,z.2.length,cf,3,1,cb,0⟩,⟨b3,gC.length,b6,3,1,[]++aq,_⟩,⟨cd,gJ.length,cg,3,1,[]++b1,_⟩,⟨cz,gU.length,c5,3,1,[]++aq,_⟩] _:=he
  have i9:At h1 cz c5 gU:=⟨_,ft,vo,hd.rowCap (i:=5) rfl⟩
  obtain⟨eM,ex173,H⟩:=Ao H
  refine wl fun K hK=>?_
  refine wc [.agg (Mh cx iJ c3 cy c4),.c (Yb cd gJ.length cg),.c (Yb cz gU.length c5),.c (Yb none 0 0)] s1 he (Pq n he.has iJ ((Ab (Af i7) (Ab (Af i8) Ad)):rep h1 iJ _) gJ f4 gU i9 ([]:List Int) At.nil ex173) fun acb os ac3 ob b8 hf=>?_
  replace bl:=bl.mono (XU (XU (XU c9 b7) bx) b8)
  replace bm:=bm.mono (XU (XU (XU c9 b7) bx) b8)
  obtain⟨_,_,rfl,⟨bp,bq,rfl,zz⟩,rfl⟩:=ob
  refine⟨.tup [.c (Yb bp eM.1.length bq),.c (XR eM.2)],rfl,fun xy (s2:Kn _ [(f,0),(g,0)] ((173,.tup [.c (Yb bp eM.1.length bq),.c (XR eM.2)])::(tS 172 cz gU.length c5)::(tS 171 ar z.1.length au)::(tS 170 cd gJ.length cg)::(tA 168 (Mh cx iJ c3 cy c4))::(GE cZ bb be ar z au a cD d)) _)=>hK _ _ ?_⟩
  refine Rk 7 5 ((tI 21 eM.2)::(tS 20 bp eM.1.length bq)::(GE cZ bb be ar z au a cD d)) s2 hf fun abj s3=>?_
  refine wf (XT (Aa (Rk 0 1 [tA 177 (Hr aa cO ac ab ad),tI 21 eM.2,tS 20 bp eM.1.length bq,tI 18 cZ.2.1,tS 17 bb cZ.1.length be,tS 12 ar z.1.length au,tS 7 a cD.1.length d] s3 hf fun abk s4=>?_)))
  obtain⟨iK,ex178,H⟩:=Ao H
  refine wl fun K hK=>?_
  refine wc [.agg (Hr aa cO ac ab ad)] s4 hf (H4 n hf.has cO.1 ((Ab (Af bl) (Ab (Af bm) Ad)):rep os cO.1 _) ex178) fun acc et ym od b9 lq=>?_
  replace d0:=d0.mono (XU (XU (XU b7 bx) b8) b9)
  replace bn:=bn.mono (XU (XU (XU b7 bx) b8) b9)
  obtain⟨_,rfl,⟨_,_,rfl,⟨c0,c6,rfl,ja⟩,⟨_,_,rfl,⟨c1,c7,rfl,jb⟩,rfl⟩⟩⟩:=od
  refine⟨.one (.agg (Mh c0 iK c6 c1 c7)),rfl,fun xz (s5:Kn _ [(f,0),(g,0)] [tA 178 (Mh c0 iK c6 c1 c7),tA 177 (Hr aa cO ac ab ad),tI 21 eM.2,tS 20 bp eM.1.length bq,tI 18 cZ.2.1,tS 17 bb cZ.1.length be,tS 12 ar z.1.length au,tS 7 a cD.1.length d] _)=>hK _ _ ?_⟩
  refine Rk 2 1 [tS 179 bb cZ.1.length be,tA 178 (Mh c0 iK c6 c1 c7),tI 21 eM.2,tS 20 bp eM.1.length bq,tI 18 cZ.2.1,tS 12 ar z.1.length au,tS 7 a cD.1.length d] s5 lq fun abl s6=>?_
  have lr:Ai _ _ [(f,0),(g,0)] (Gy t_ p q l m aa cO ac ab ad) [⟨a2,cG.length,a3,3,1,a1,a4⟩,⟨ar,z.1.length,au,3,1,aq,0⟩,⟨cc,z.2.length,cf,3,1,cb,0⟩,⟨b3,gC.length,b6,3,1,[]++aq,_⟩,⟨cd,gJ.length,cg,3,1,[]++b1,_⟩,⟨cz,gU.length,c5,3,1,[]++aq,_⟩,⟨none,0,0,3,1,[],0⟩] _:=lq.nilRow 3 1
  have ps:Ae et ([]:List Int) []:=Ae.nil
  obtain⟨ed,gx,vv,_⟩:=id d0
  obtain⟨hC,ex180,H⟩:=Ao H
  obtain⟨jj,ue⟩:=Bj ex180
  refine wl fun K hK=>?_
  refine AS 6 8 cZ.1.length _ (hC.length) _ ed s6 lr rfl rfl (by decide) rfl (by rfl) (by kernel_rfl) (by rfl) (by rfl) (Ae.len gx) (vv.cell lr.has gx.one) gx.one (by rw [jj]; simp <;> omega) (by rw [jj]; exact ue) (by decide) fun dd de nr x0 yn p0 (s7:Kn _ [(f,0),(g,0)] [tS 180 dd hC.length de,tS 179 bb cZ.1.length be,tA 178 (Mh c0 iK c6 c1 c7),tI 21 eM.2,tS 20 bp eM.1.length bq,tI 18 cZ.2.1,tS 12 ar z.1.length au,tS 7 a cD.1.length d] _) ls=>?_
  have fu:Ae et hC ([]++ed):=by rw [jj]; exact Ae.append ps gx
  obtain rfl:nr=0:=Nat.le_zero.1 p0
  refine hK _ _ ?_
  refine Rk 4 1 [tS 181 ar z.1.length au,tS 180 dd hC.length de,tA 178 (Mh c0 iK c6 c1 c7),tI 21 eM.2,tS 20 bp eM.1.length bq,tI 18 cZ.2.1,tS 7 a cD.1.length d] s7 ls fun abm s8=>?_
  have lu:Ai _ _ [(f,0),(g,0)] (Gy t_ p q l m aa cO ac ab ad) [⟨a2,cG.length,a3,3,1,a1,a4⟩,⟨ar,z.1.length,au,3,1,aq,0⟩,⟨cc,z.2.length,cf,3,1,cb,0⟩,⟨b3,gC.length,b6,3,1,[]++aq,_⟩,⟨cd,gJ.length,cg,3,1,[]++b1,_⟩,⟨cz,gU.length,c5,3,1,[]++aq,_⟩,⟨dd,hC.length,de,3,1,[]++ed,0⟩,⟨none,0,0,3,1,[],0⟩] _:=ls.nilRow 3 1
  have pt:Ae et ([]:List Int) []:=Ae.nil
  obtain⟨iN,ex182,H⟩:=Ao H
  obtain⟨jk,uf⟩:=Bj ex182
  refine wl fun K hK=>?_
  refine AS 7 8 z.1.length _ (iN.length) _ aq s8 lu rfl rfl (by decide) rfl (by rfl) (by kernel_rfl) (by rfl) (by rfl) (Ae.len bn) (lu.rowCell (i:=1) rfl) bn.one (by rw [jk]; simp <;> omega) (by rw [jk]; exact uf) (by decide) fun eh ek ns x1 nf p1 (s9:Kn _ [(f,0),(g,0)] [tS 182 eh iN.length ek,tS 181 ar z.1.length au,tS 180 dd hC.length de,tA 178 (Mh c0 iK c6 c1 c7),tI 21 eM.2,tS 20 bp eM.1.length bq,tI 18 cZ.2.1,tS 7 a cD.1.length d] _) lv=>?_
  have fv:Ae et iN ([]++aq):=by rw [jk]; exact Ae.append pt bn
  obtain rfl:ns=0:=Nat.le_zero.1 p1
  refine hK _ _ ?_
  obtain⟨kb,br,vp,hg⟩:=lv.settle (i:=6) rfl
  replace fu:=fu.mono br
  replace hg:Ai _ _ [(f,0),(g,0)] (Gy t_ p q l m aa cO ac ab ad) [⟨a2,cG.length,a3,3,1,a1,a4⟩,⟨ar,z.1.length,au,3,1,aq,0⟩,⟨cc,z.2.length,cf,3,1,cb,0⟩,⟨b3,gC.length,b6,3,1,[]++aq,_⟩,⟨cd,gJ.length,cg,3,1,[]++b1,_⟩,⟨cz,gU.length,c5,3,1,[]++aq,_⟩,⟨dd,hC.length,de,3,1,[]++ed,_⟩,⟨eh,iN.length,ek,3,1,[]++aq,0⟩] _:=hg
  have f5:At kb dd de hC:=⟨_,fu,vp,lv.rowCap (i:=6) rfl⟩
  obtain⟨h2,bo,vq,hi⟩:=hg.settle (i:=7) rfl
  replace ja:=ja.mono (XU br bo)
  replace jb:=jb.mono (XU br bo)
  replace f5:=f5.mono bo
  replace fv:=fv.mono (XU br bo)
  replace hi:Ai _ _ [(f,0),(g,0)] (Gy t_ p q l m aa cO ac ab ad) [⟨a2,cG.length,a3,3,1,a1,a4⟩,⟨ar,z.1.length,au,3,1,aq,0⟩,⟨cc,z.2.length,cf,3,1,cb,0⟩,⟨b3,gC.length,b6,3,1,[]++aq,_⟩,⟨cd,gJ.length,cg,3,1,[]++b1,_⟩,⟨cz,gU.length,c5,3,1,[]++aq,_⟩,⟨dd,hC.length,de,3,1,[]++ed,_⟩,⟨eh,iN.length,ek,3,1,[]++aq,_⟩] _:=hi
  have jc:At h2 eh ek iN:=⟨_,fv,vq,hg.rowCap (i:=7) rfl⟩
  obtain⟨fI,ex183,H⟩:=Ao H
  refine wl fun K hK=>?_
  refine wc [.agg (Mh c0 iK c6 c1 c7),.c (Yb dd hC.length de),.c (Yb eh iN.length ek),.c (Yb none 0 0)] s9 hi (NU n hi.has iK ((Ab (Af ja) (Ab (Af jb) Ad)):rep h2 iK _) hC f5 iN jc ([]:List Int) At.nil ex183) fun acd zg ac4 oe bs bz=>?_
  obtain⟨_,_,rfl,⟨ci,cj,rfl,z0⟩,rfl⟩:=oe
  refine⟨.tup [.c (Yb ci fI.1.length cj),.c (XR fI.2)],rfl,fun x3 (tb:Kn _ [(f,0),(g,0)] [(183,.tup [.c (Yb ci fI.1.length cj),.c (XR fI.2)]),tS 182 eh iN.length ek,tS 181 ar z.1.length au,tS 180 dd hC.length de,tA 178 (Mh c0 iK c6 c1 c7),tI 21 eM.2,tS 20 bp eM.1.length bq,tI 18 cZ.2.1,tS 7 a cD.1.length d] _)=>hK _ _ ?_⟩
  refine Rk 7 5 [tI 23 fI.2,tS 22 ci fI.1.length cj,tI 21 eM.2,tS 20 bp eM.1.length bq,tI 18 cZ.2.1,tS 7 a cD.1.length d] tb bz fun abo tc=>?_
  refine wf (XT (Aa (Rk 0 3 [tB 188 (eM.2 == 0),tI 23 fI.2,tS 22 ci fI.1.length cj,tS 20 bp eM.1.length bq,tI 18 cZ.2.1,tS 7 a cD.1.length d] tc bz fun m6 kv=>?_)))
  rcases Y2 ((eM.2 == 0)) with fl | fl
  ·
   rw [fl,XW] at H
   have td:Kn _ _ [tB 188 true,tI 23 fI.2,tS 22 ci fI.1.length cj,tS 20 bp eM.1.length bq,tI 18 cZ.2.1,tS 7 a cD.1.length d] _:=(kv.setB 188 true (by rfl) fl).kp
   refine Rk 3 4 [tB 192 (fI.2 == 0),tS 22 ci fI.1.length cj,tS 20 bp eM.1.length bq,tI 18 cZ.2.1,tS 7 a cD.1.length d] td bz fun m7 kw=>?_
   rcases Y2 ((fI.2 == 0)) with fm | fm
   ·
    rw [fm,XW] at H
    have te:Kn _ _ [tB 192 true,tS 22 ci fI.1.length cj,tS 20 bp eM.1.length bq,tI 18 cZ.2.1,tS 7 a cD.1.length d] _:=(kw.setB 192 true (by rfl) fm).kp
    refine Rk 7 6 [tB 198 (decide (((eM.1.length:Nat):Int)≤cZ.2.1)),tS 22 ci fI.1.length cj,tS 7 a cD.1.length d] te bz fun m8 kx=>?_
    rcases Y2 (decide (((eM.1.length:Nat):Int)≤cZ.2.1)) with fn | fn
    ·
     rw [fn,XW] at H
     have tg:Kn _ _ [tB 198 true,tS 22 ci fI.1.length cj,tS 7 a cD.1.length d] _:=(kx.setB 198 true (by rfl) fn).kp
     refine Rk 13 7 [tB 205 (((fI.1.length:Nat):Int) == ((cD.1.length:Nat):Int))] tg bz fun m9 ky=>?_
     rcases Y2 ((((fI.1.length:Nat):Int) == ((cD.1.length:Nat):Int))) with fo | fo
     ·
      rw [fo,XW] at H
      have kz:Kn _ _ [tB 205 true] _:=(ky.setB 205 true (by rfl) fo).kp
      obtain⟨kK,ex206,H⟩:=Ao H
      refine AD _ rfl (Al kz (by kernel_rfl)) fun K hK=>?_
      refine wc [] kz bz (GM n bz.has  ex206) fun ace zh ac6 og zq lw=>?_
      obtain rfl:=og
      refine⟨.one (.c (.bool kK)),rfl,fun x4 (th:Kn _ [(f,0),(g,0)] [tB 206 kK,tB 205 true] _)=>hK _ _ ?_⟩
      refine Rk 21 2 [tB 6 kK] th lw fun abp ti=>?_
      refine wf (wp_ret ?_)
      obtain rfl:=XZ H
      exact rt (.one (.c (.bool kK))) ti lw rfl
     rw [fo,XV] at H
     have tj:Kn _ _ [tB 205 false] _:=(ky.setB 205 false (by rfl) fo).kp
     refine Rk 20 3 [tB 6 false] tj bz fun abq tk=>?_
     refine wf (wp_ret ?_)
     obtain rfl:=XZ H
     exact rt (.one (.c (.bool false))) tk bz rfl
    rw [fn,XV] at H
    have tl:Kn _ _ [tB 198 false,tS 22 ci fI.1.length cj,tS 7 a cD.1.length d] _:=(kx.setB 198 false (by rfl) fn).kp
    refine Rk 13 10 [tB 6 false] tl bz fun abr tm=>?_
    refine wf (wp_ret ?_)
    obtain rfl:=XZ H
    exact rt (.one (.c (.bool false))) tm bz rfl
   rw [fm,XV] at H
   have tn:Kn _ _ [tB 192 false,tS 22 ci fI.1.length cj,tS 20 bp eM.1.length bq,tI 18 cZ.2.1,tS 7 a cD.1.length d] _:=(kw.setB 192 false (by rfl) fm).kp
   refine Rk 7 16 [tB 6 false] tn bz fun abs tp=>?_
   refine wf (wp_ret ?_)
   obtain rfl:=XZ H
   exact rt (.one (.c (.bool false))) tp bz rfl
  rw [fl,XV] at H
  have tq:Kn _ _ [tB 188 false,tI 23 fI.2,tS 22 ci fI.1.length cj,tS 20 bp eM.1.length bq,tI 18 cZ.2.1,tS 7 a cD.1.length d] _:=(kv.setB 188 false (by rfl) fl).kp
  refine Rk 3 20 [tB 6 false] tq bz fun abt tr=>?_
  refine wf (wp_ret ?_)
  obtain rfl:=XZ H
  exact rt (.one (.c (.bool false))) tr bz rfl
 refine BT (fun W=>∀ (d3:Nat),∀ (dp:Yd),∀ (dt:Nat),∀ (ee:Ye),∀ a' w',(∃ (jz:Array Value)(gk:Ac),a' = ⟨jz,[]⟩∧Kn 208 [(f,0),(d3,0)] ((tP 9 1 0)::(tS 51 dp cG.length dt)::(tS 49 a cD.1.length d)::(tA 48 (NW t_ p q l m))::(H6 a cD d aQ words aR)) jz∧Ai ⟨w,h,BF⟩ gk [(f,0),(d3,0)] (JJ t_ p q l m) [⟨dp,cG.length,dt,3,1,ee,0⟩] w'∧Ac.le cr gk∧Ae gk cG ee)→W [(f,0),(d3,0)] (JJ t_ p q l m) [3,8,2,1,0] a' w') ?_ (fun mw=>?_)
 ·
  intro d3 dp dt ee
  rintro _ yo ⟨jz,gk,rfl,ts,lx,g4,eu⟩
  refine Dl 4 fun K hK=>?_
  obtain⟨h3,fz,vr,hl⟩:=lx.settle (i:=0) rfl
  replace a0:=a0.mono (XU g4 fz)
  replace ax:=ax.mono (XU g4 fz)
  replace bi:=bi.mono (XU g4 fz)
  replace eu:=eu.mono fz
  replace hl:Ai _ _ [(f,0),(d3,0)] (JJ t_ p q l m) [⟨dp,cG.length,dt,3,1,ee,_⟩] _:=hl
  have vg:At h3 dp dt cG:=⟨_,eu,vr,lx.rowCap (i:=0) rfl⟩
  refine wc [.agg (NW t_ p q l m),.c (Yb a cD.1.length d),.c (Yb dp cG.length dt)] ts hl (NQ n hl.has t_ ((Ab Ad (Ab Ad (Ab (Af a0) (Af ax)))):rep h3 t_ _) cD.1 bi cG vg jO) fun acf zi ac7 oh k3 i3=>?_
  replace eu:=eu.mono k3
  obtain⟨_,_,rfl,⟨_,rfl,⟨_,_,rfl,⟨f8,gg,rfl,vh⟩,⟨_,_,rfl,⟨f9,gh,rfl,vi⟩,rfl⟩⟩⟩,rfl⟩:=oh
  refine⟨.tup [.agg [Yb f8 cO.1.room.length gg,Yb f9 cO.1.lG.length gh,XR cO.1.broken],.c (.bool cO.2)],rfl,fun x5 (tt:Kn _ [(f,0),(d3,0)] ((52,.tup [.agg [Yb f8 cO.1.room.length gg,Yb f9 cO.1.lG.length gh,XR cO.1.broken],.c (.bool cO.2)])::(tP 9 1 0)::(tS 51 dp cG.length dt)::(tS 49 a cD.1.length d)::(tA 48 (NW t_ p q l m))::(H6 a cD d aQ words aR)) _)=>hK _ _ i3.plOk ?_⟩
  refine Dr [5,6,7] [7,6,5,4,3,8,2,1,0] ((tB 54 cO.2)::(tA 53 [Yb f8 cO.1.room.length gg,Yb f9 cO.1.lG.length gh,XR cO.1.broken])::(tP 9 1 0)::(H6 a cD d aQ words aR)) tt i3 fun abu tu=>?_
  refine AK [7,6,5,4,3,8,2,1,0] (by kernel_rfl) (by rfl) (mv d3 dp dt ee ((ee:Ye).length) f8 gg f9 gh _ _ ?_)
  exact XY _ ⟨_,rfl,tu.kp,i3,XU g4 (XU fz k3),eu,vh,vi⟩
 refine Gn 3 8 rfl rfl (by kernel_rfl) (by decide) (rfl) (rfl) (fun K hK=>?_) (fun K hK=>?_)
 ·
  obtain⟨dc,gy,vw,_⟩:=id eE
  obtain⟨jl,ug⟩:=Qr hG
  refine Pg 0 8 room.length _ (cG.length) _ dc km iw rfl rfl (by decide) rfl (by rfl) (by kernel_rfl) (by rfl) (by rfl) (Ae.len gy) (vw.cell iw.has gy.one) gy.one (by rw [jl]; simp <;> omega) (by rw [jl]; exact ug) (by decide) fun c2 c8 nt x6 yp p2 (k1:Kn _ [(f,0),(0,0)] [(51,.one (.c (Yb c2 cG.length c8))),(50,.one (.c (Yb aO room.length aP))),(49,.one (.c (Yb a cD.1.length d))),(48,.one (.agg [XR t_.places,XR t_.layover,Yb p t_.empty.length q,Yb l t_.trips.length m])),(7,.one (.c (Yb a cD.1.length d))),(3,.one (.c (.ptr 0 0))),(2,.one (.c (Yb aQ words.length aR)))] _) hn=>?_
  have d7:Ae cr cG ([]++dc):=by rw [jl]; exact Ae.append kh gy
  obtain rfl:nt=0:=Nat.le_zero.1 p2
  refine hK _ _ hn.plOk ?_
  refine Gn 4 8 rfl rfl (by kernel_rfl) (by decide) (rfl) (rfl) (fun K hK=>?_) (fun K hK=>?_)
  ·
   obtain⟨h4,f0,vs,ho⟩:=hn.settle (i:=0) rfl
   replace a0:=a0.mono f0
   replace ax:=ax.mono f0
   replace bi:=bi.mono f0
   replace d7:=d7.mono f0
   replace ho:Ai _ _ [(f,0),(0,0)] [⟨NW t_ p q l m,some 25⟩,⟨[],none⟩] [⟨c2,cG.length,c8,3,1,[]++dc,_⟩] _:=ho
   have vj:At h4 c2 c8 cG:=⟨_,d7,vs,hn.rowCap (i:=0) rfl⟩
   refine wc [.agg (NW t_ p q l m),.c (Yb a cD.1.length d),.c (Yb c2 cG.length c8)] k1 ho (NQ n ho.has t_ ((Ab Ad (Ab Ad (Ab (Af a0) (Af ax)))):rep h4 t_ _) cD.1 bi cG vj jO) fun acg ot ac8 oi k4 i4=>?_
   replace d7:=d7.mono k4
   obtain⟨_,_,rfl,⟨_,rfl,⟨_,_,rfl,⟨e8,fd,rfl,vk⟩,⟨_,_,rfl,⟨e9,fe,rfl,vl⟩,rfl⟩⟩⟩,rfl⟩:=oi
   refine⟨.tup [.agg [Yb e8 cO.1.room.length fd,Yb e9 cO.1.lG.length fe,XR cO.1.broken],.c (.bool cO.2)],rfl,fun x7 (tx:Kn _ [(f,0),(0,0)] ((52,.tup [.agg [Yb e8 cO.1.room.length fd,Yb e9 cO.1.lG.length fe,XR cO.1.broken],.c (.bool cO.2)])::(tS 51 c2 cG.length c8)::(tS 50 aO room.length aP)::(tS 49 a cD.1.length d)::(tA 48 (NW t_ p q l m))::(H6 a cD d aQ words aR)) _)=>hK _ _ i4.plOk ?_⟩
   refine Dr [5,6,7] (dn 7) ((tB 54 cO.2)::(tA 53 [Yb e8 cO.1.room.length fd,Yb e9 cO.1.lG.length fe,XR cO.1.broken])::(H6 a cD d aQ words aR)) tx i4 fun abw ty=>?_
   refine Dl 8 fun K hK=>?_
   refine MO 1 JC ty i4 fun gb x8 yq (t0:Kn _ [(f,0),(gb,0)] ((tP 9 1 0)::(tB 54 cO.2)::(tA 53 [Yb e8 cO.1.room.length fd,Yb e9 cO.1.lG.length fe,XR cO.1.broken])::(H6 a cD d aQ words aR)) _) (ly:Ai _ _ [(f,0),(gb,0)] (JJ t_ p q l m) [⟨c2,cG.length,c8,3,1,[]++dc,_⟩] _)=>hK _ _ (Ay.unset 1 rfl (by kernel_rfl) ly.plOk) (BZ (e':=[(f,0),(gb,0)]) (pl':=(JJ t_ p q l m)) (fun _ hp=>hp.unset 1 rfl (by kernel_rfl)) ?_)
   refine AK [7,6,5,4,3,8,2,1,0] (by kernel_rfl) (by rfl) (mv gb c2 c8 ([]++dc) ((([]++dc):Ye).length) e8 fd e9 fe _ _ ?_)
   exact XY _ ⟨_,rfl,t0.kp,ly,XU f0 k4,d7,vk,vl⟩
  refine MO 1 JC k1 hn fun gc x9 yr (t1:Kn _ [(f,0),(gc,0)] ((tP 9 1 0)::(tS 51 c2 cG.length c8)::(tS 50 aO room.length aP)::(tS 49 a cD.1.length d)::(tA 48 (NW t_ p q l m))::(H6 a cD d aQ words aR)) _) (lz:Ai _ _ [(f,0),(gc,0)] (JJ t_ p q l m) [⟨c2,cG.length,c8,3,1,[]++dc,0⟩] _)=>hK _ _ (Ay.unset 1 rfl (by kernel_rfl) lz.plOk) (BZ (e':=[(f,0),(gc,0)]) (pl':=(JJ t_ p q l m)) (fun _ hp=>hp.unset 1 rfl (by kernel_rfl)) ?_)
  refine AK [3,8,2,1,0] (by kernel_rfl) (by rfl) (mw gc c2 c8 ([]++dc) _ _ ?_)
  exact XY _ ⟨_,rfl,t1.kp,lz,Ac.le_refl _,d7⟩
 refine MO 1 JC km iw fun fa wz ya (p4:Kn _ [(f,0),(fa,0)] ((tP 9 1 0)::(tS 50 aO room.length aP)::(tS 49 a cD.1.length d)::(tA 48 (NW t_ p q l m))::(H6 a cD d aQ words aR)) _) (iv:Ai _ _ [(f,0),(fa,0)] (JJ t_ p q l m) [⟨none,0,0,3,1,[],0⟩] _)=>hK _ _ (Ay.unset 1 rfl (by kernel_rfl) iv.plOk) (BZ (e':=[(f,0),(fa,0)]) (pl':=(JJ t_ p q l m)) (fun _ hp=>hp.unset 1 rfl (by kernel_rfl)) ?_)
 refine Dl 3 fun K hK=>?_
 obtain⟨j0,gv,vt,_⟩:=id eE
 obtain⟨jd,t2⟩:=Qr hG
 refine Pg 0 8 room.length _ (cG.length) _ j0 p4 iv rfl rfl (by decide) rfl (by rfl) (by kernel_rfl) (by rfl) (by rfl) (Ae.len gv) (vt.cell iv.has gv.one) gv.one (by rw [jd]; simp <;> omega) (by rw [jd]; exact t2) (by decide) fun j1 j5 nk w0 ach pu (p5:Kn _ [(f,0),(fa,0)] [(51,.one (.c (Yb j1 cG.length j5))),(9,.one (.c (.ptr 1 0))),(50,.one (.c (Yb aO room.length aP))),(49,.one (.c (Yb a cD.1.length d))),(48,.one (.agg [XR t_.places,XR t_.layover,Yb p t_.empty.length q,Yb l t_.trips.length m])),(7,.one (.c (Yb a cD.1.length d))),(3,.one (.c (.ptr 0 0))),(2,.one (.c (Yb aQ words.length aR)))] _) k5=>?_
 have oz:Ae cr cG ([]++j0):=by rw [jd]; exact Ae.append kh gv
 obtain rfl:nk=0:=Nat.le_zero.1 pu
 refine hK _ _ k5.plOk ?_
 refine AK [3,8,2,1,0] (by kernel_rfl) (by rfl) (mw fa j1 j5 ([]++j0) _ _ ?_)
 exact XY _ ⟨_,rfl,p5.kp,k5,Ac.le_refl _,oz⟩
end Go.Proofs.YtinminkmefljbaaGreat
