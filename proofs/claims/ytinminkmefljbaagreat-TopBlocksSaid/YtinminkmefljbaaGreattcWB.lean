/- Each call computes its plain function. -/
import Derived.Test.YtinminkmefljbaaGreatProg
import Derived.Test.YtinminkmefljbaaGreattcS9
import Derived.Test.YtinminkmefljbaaGreattcWA
set_option linter.all false
namespace Go.Proofs.YtinminkmefljbaaGreat
open Go Go.RowKit
set_option maxRecDepth 100000
set_option maxHeartbeats 4000000
open Rep (rep)
open KRep (kv)
open VRep (rv)
abbrev Gr (aA)(l:List Int)(bK bL a)(aB:List Int)(d):=([tI 19 aA,tI 18 ((l.length:Nat):Int),tS 17 bK l.length bL,tS 5 a aB.length d]:TM)
theorem KQ (n:Nat) {h:Ac} {w:World} (hh:CK h w) (y:Am) {dQ:Ye} (eD:rep h y dQ) (l:List Int) {bK:Yd} {bL:Nat} (dP:At h bK bL l) {r:Bool} (H:DM n y l=some r) :
  Calls Tryz.prog 64 #[.agg dQ.toArray,.slice bK l.length bL] w (CP (fun h v=>v=.bool r) h w):=by
 obtain⟨_,_,rfl,⟨p,s,rfl,ap⟩,⟨_,_,rfl,⟨z,aa,rfl,av⟩,rfl⟩⟩:=eD
 refine enter 43 [.agg (Mh p y s z aa),.c (Yb bK l.length bL)] Tryz.func64 rfl rfl rfl rfl fun t hk=>?_
 have hm:=Ai.begin h w hh
 unfold DM at H
 refine XT (Aa (wl fun K hK=>?_))
 refine wb (.agg (Mh p y s z aa)) hk hm fun g du ex (ch:Kn _ [(g,0)] [tP 2 0 0,tA 0 (Mh p y s z aa),tS 1 bK l.length bL] _) ad=>hK _ _ ?_
 refine Rk 1 1 [tP 2 0 0,tS 1 bK l.length bL] ch ad fun ea cm=>?_
 refine wf (XT (XT (Aa (Rk 0 6 [tB 13 (((l.length:Nat):Int) != ((y.lG.length:Nat):Int)),tP 2 0 0,tS 1 bK l.length bL] cm ad fun ee a3=>?_))))
 refine wf (wC ((((l.length:Nat):Int) != ((y.lG.length:Nat):Int))) a3 (fun a0=>?_) (fun a0=>?_))
 ·
  rw [a0,XW] at H
  refine XT (Aa (Rk 0 1 [tB 4 false] a3 ad fun eg cx=>?_))
  refine wf (wp_ret ?_)
  obtain rfl:=XZ H
  exact rt (.one (.c (.bool false))) cx ad rfl
 rw [a0,XV] at H
 refine wp_skip (XT (Aa (Rk 0 2 [tS 15 p y.room.length s,tS 1 bK l.length bL] a3 ad fun ei cy=>?_)))
 obtain⟨cT,fT,H⟩:=Ao H
 refine wl fun K hK=>?_
 refine ET [.c (Yb p y.room.length s)] _ cy ad rfl rfl (by decide) (by rfl) rfl (fun _ _=>by kernel_rfl) (Dy n ad.has y.room ap fT) fun er ay dx d8 b6 a6 ao=>?_
 replace dP:=dP.mono a6
 obtain⟨ae,ag,b4,rfl,rfl,cf⟩:=b6
 replace ao:Ai _ _ [(g,0)] [⟨Mh p y s z aa,some 51⟩] [⟨ae,cT.length,ag,3,1,b4,0⟩] _:=ao
 refine⟨.one (.c (Yb ae cT.length ag)),rfl,fun ds (cz:Kn _ [(g,0)] [tS 16 ae cT.length ag,tS 15 p y.room.length s,tS 1 bK l.length bL] _)=>hK _ _ ?_⟩
 refine Rk 3 1 [tS 5 ae cT.length ag,tS 1 bK l.length bL] cz ao fun ej c0=>?_
 refine wf (XT (XT (Aa (Rk 0 3 [tI 19 0,tI 18 ((l.length:Nat):Int),tS 17 bK l.length bL,tS 5 ae cT.length ag] c0 ao fun ek c1=>?_))))
 refine wf ?_
 obtain⟨b1,bi,H⟩:=Ao H
 refine Ar (fun a' w'=>∃ (ax:List Int)(bf:Yd)(bh:Nat)(be:Ye)(bb:Array Value)(aq:Ac),a' = ⟨bb,[]⟩∧Kn 43 [(g,0)] [] bb∧Ai ⟨w,h,BF⟩ aq [(g,0)] [⟨Mh p y s z aa,some 51⟩] [⟨bf,ax.length,bh,3,1,be,0⟩] w'∧Ac.le ay aq∧Ae aq ax be∧b1=.go ax) ?_ ?_
 ·
  refine wp_block ?_
  refine Av (fun dp a' w'=>∃ (aB:List Int)(aA:Int)(a:Yd)(d:Nat)(m:Ye)(bc:Array Value)(ak:Ac),a' = ⟨bc,[]⟩∧Kn 43 [(g,0)] (Gr aA l bK bL a aB d) bc∧Ai ⟨w,h,BF⟩ ak [(g,0)] [⟨Mh p y s z aa,some 51⟩] [⟨a,aB.length,d,3,1,m,0⟩] w'∧Ac.le ay ak∧Ae ak aB m∧BV dp l aB aA=some b1) n ?_ ?_
  ·
   exact XY cT ⟨0,ae,ag,b4,_,_,rfl,c1.kp,ao,Ac.le_refl _,cf,bi⟩
  rintro aw _ ev ⟨aB,aA,a,d,m,bc,ak,rfl,c2,a9,am,u,f⟩
  clear bi
  obtain _ | aw:=aw
  ·
   rw [BV] at f; cases f
  rw [BV] at f
  replace dP:=dP.mono am
  refine XT (Aa (Rk 0 1 ((tB 20 (decide (aA<((l.length:Nat):Int))))::(Gr aA l bK bL a aB d)) c2 a9 fun el a4=>?_))
  refine wf (XT (wC (decide (aA<((l.length:Nat):Int))) a4 (fun a1=>?_) (fun a1=>?_)))
  ·
   rw [a1,XW] at f
   refine wp_skip (XT (wp_block (XT (Aa ?_))))
   obtain⟨cR,iY,f⟩:=Ao f
   obtain⟨de,df,dn⟩:=Aj iY
   obtain⟨q,x,d1,b8,dj,cg⟩:=dP.get (by decide) dn
   obtain rfl:=dj
   have au:=a9.addPlc (b:=q) (o:=x+Yc aA*1) (cs:=[XR cR]) (fun j c hj=>cg j _ (Ak hj)) rfl (by kernel_rfl) (by kernel_rfl)
   refine A9 0 (aA) rfl rfl (rfl) rfl (by decide) a4 (by rfl) (by rfl) (by rfl) b8 (by rfl) de df (by kernel_rfl) fun dt (c3:Kn _ [(g,0),(q,x+Yc aA*1)] ((tP 21 1 0)::(tB 20 (decide (aA<((l.length:Nat):Int))))::(Gr aA l bK bL a aB d)) _)=>?_
   refine Rk 1 2 ((tI 7 cR)::(Gr aA l bK bL a aB d)) c3 au fun em c4=>?_
   refine wf (XT (XT ?_))
   obtain⟨b2,ab,f⟩:=Ao f
   refine Ar (fun a' w'=>∃ (bd:Array Value)(ah:Ac),a' = ⟨bd,[]⟩∧Kn 43 [(g,0),(q,x+Yc aA*1)] [tI 7 cR,tI 19 aA,tI 18 ((l.length:Nat):Int),tS 17 bK l.length bL,tS 5 a aB.length d,tB 35 b2] bd∧Ai ⟨w,h,BF⟩ ah [(g,0),(q,x+Yc aA*1)] [⟨Mh p y s z aa,some 51⟩,⟨[XR cR],none⟩] [⟨a,aB.length,d,3,1,m,0⟩] w'∧Ac.le ak ah) ?_ ?_
   ·
    refine Aa (Rk 0 4 ((tI 26 (Ya (((aB.length:Nat):Int)-1)))::(tI 23 cR)::(tI 7 cR)::(Gr aA l bK bL a aB d)) c4 au fun en c5=>?_)
    obtain⟨dG,iP,ab⟩:=Ao ab
    refine wl fun K hK=>?_
    refine wc [.c (XR cR),.c (XR 0),.c (XR (Ya (((aB.length:Nat):Int)-1)))] c5 au (D3 aw au.has cR 0 (Ya (((aB.length:Nat):Int)-1)) iP) fun es d2 ew b7 a7 ai=>?_
    replace u:=u.mono a7
    obtain rfl:=b7
    refine⟨.one (.c (.bool dG)),rfl,fun dv (c6:Kn _ [(g,0),(q,x+Yc aA*1)] ((tB 27 dG)::(tI 26 (Ya (((aB.length:Nat):Int)-1)))::(tI 23 cR)::(tI 7 cR)::(Gr aA l bK bL a aB d)) _)=>hK _ _ ?_⟩
    refine Rk 5 2 ((tB 29 (!dG))::(tI 7 cR)::(Gr aA l bK bL a aB d)) c6 ai fun b3 bm=>?_
    rcases Y2 ((!dG)) with al | al
    ·
     rw [al,XW] at ab
     have c7:Kn _ _ ((tB 29 true)::(tI 7 cR)::(Gr aA l bK bL a aB d)) _:=(bm.setB 29 true (by rfl) al).kp
     refine Rk 7 6 ((tB 35 true)::(tI 7 cR)::(Gr aA l bK bL a aB d)) c7 ai fun eo c8=>?_
     refine wf ?_
     obtain rfl:=XZ ab
     exact XY _ ⟨_,rfl,c8.kp,ai,a7⟩
    rw [al,XV] at ab
    have c9:Kn _ _ ((tB 29 false)::(tI 7 cR)::(Gr aA l bK bL a aB d)) _:=(bm.setB 29 false (by rfl) al).kp
    refine Rk 7 2 ((tI 31 cR)::(tS 30 a aB.length d)::(tB 29 false)::(tI 7 cR)::(Gr aA l bK bL a aB d)) c9 ai fun ep bn=>?_
    obtain⟨jL,kT,ab⟩:=Ao ab
    obtain⟨bs,bv,dk⟩:=Aj kT
    have da:=AG bs bv
    obtain⟨dy,dg,b9⟩:=AM (sz:=1) rfl u dk
    obtain rfl:=dg
    obtain⟨bg,bj⟩:=AP ai (i:=0) rfl (b0:=0+Yc cR*1) (Y5 (Y6 (by decide)) (A3 (sz:=1) rfl u da))
    have a8:=ai.addPlc (b:=bg) (o:=0+Yc cR*1) (cs:=[]) (fun j c hj=>by simp at hj) rfl (by kernel_rfl) (by kernel_rfl)
    have ca:∀ (e:AJ) k c,([XR jL]:List SC)[k]? = some c→(m)[0+Yc cR*1+k]? = some (c.den e):=fun e k c hk=>b9 k _ (Ak hk)
    refine A9 9 (cR) rfl rfl (Al bn (by kernel_rfl)) rfl (by decide) bn (by rfl) (by rfl) (by rfl) bj (by rfl) bs bv (by kernel_rfl) fun dq (ci:Kn _ [(g,0),(q,x+Yc aA*1),(bg,0+Yc cR*1)] ((tP 32 2 0)::(tI 31 cR)::(tS 30 a aB.length d)::(tB 29 false)::(tI 7 cR)::(Gr aA l bK bL a aB d)) _)=>?_
    refine F4 10 3 [35,7,19,18,17,5] ((tB 35 (jL == 0))::(tI 7 cR)::(Gr aA l bK bL a aB d)) ci (Ay.peek a8.plOk a8 0 2 rfl rfl bj [XR jL] (ca _)) (by kernel_rfl) fun d9 cj=>?_
    refine wf ?_
    obtain rfl:=XZ ab
    exact XY _ ⟨_,rfl,(cj.keep [7,19,18,17,5,35] (by rfl)).cut 2 (by kernel_rfl),a8.cutPl 2 (by kernel_rfl),a7⟩
   rintro _ et ⟨bd,ah,rfl,a2,an,bo⟩
   replace u:=u.mono bo
   refine wC (b2) a2 (fun az=>?_) (fun az=>?_)
   ·
    rw [Ba az] at f
    refine XT (Aa (Rk 0 1 [tB 4 false] a2 an fun eb ck=>?_))
    refine wf (wp_ret ?_)
    obtain rfl:=XZ f
    obtain rfl:=XZ H
    exact rt (.one (.c (.bool false))) ck an rfl
   rw [Bb az] at f
   refine wp_skip (Aa (Rk 0 2 ((tI 37 cR)::(tS 36 a aB.length d)::(Gr aA l bK bL a aB d)) a2 an fun ec cl=>?_))
   obtain⟨eJ,jV,f⟩:=Ao f
   obtain⟨bt,bw,dl⟩:=Aj jV
   have db:=AG bt bw
   obtain⟨dz,dh,cb⟩:=AM (sz:=1) rfl u dl
   obtain rfl:=dh
   obtain⟨af,bk⟩:=AP an (i:=0) rfl (b0:=0+Yc cR*1) (Y5 (Y6 (by decide)) (A3 (sz:=1) rfl u db))
   have ar:=an.addPlc (b:=af) (o:=0+Yc cR*1) (cs:=[]) (fun j c hj=>by simp at hj) rfl (by kernel_rfl) (by kernel_rfl)
   have cc:∀ (e:AJ) k c,([XR eJ]:List SC)[k]? = some c→(m)[0+Yc cR*1+k]? = some (c.den e):=fun e k c hk=>cb k _ (Ak hk)
   refine A9 2 (cR) rfl rfl (rfl) rfl (by decide) cl (by rfl) (by rfl) (by rfl) bk (by rfl) bt bw (by kernel_rfl) fun dr (cn:Kn _ [(g,0),(q,x+Yc aA*1),(af,0+Yc cR*1)] ((tP 38 2 0)::(tI 37 cR)::(tS 36 a aB.length d)::(Gr aA l bK bL a aB d)) _)=>?_
   refine F4 3 2 [40,37,36,19,18,17,5] ((tI 40 (Ya (eJ-1)))::(tI 37 cR)::(tS 36 a aB.length d)::(Gr aA l bK bL a aB d)) cn (Ay.peek ar.plOk ar 0 2 rfl rfl bk [XR eJ] (cc _)) (by kernel_rfl) fun ed co=>?_
   obtain⟨x41,ex41,f⟩:=Ao f
   obtain⟨bu,bx,dm⟩:=Aj ex41
   have a5:=AG bu bx
   obtain⟨d0,di,cd⟩:=AM (sz:=1) rfl u dm
   obtain rfl:=di
   obtain⟨aj,bl⟩:=AP ar (i:=0) rfl (b0:=0+Yc cR*1) (Y5 (Y6 (by decide)) (A3 (sz:=1) rfl u a5))
   have dc:=ar.addPlc (b:=aj) (o:=0+Yc cR*1) (cs:=[]) (fun j c hj=>by simp at hj) rfl (by kernel_rfl) (by kernel_rfl)
   have d3:∀ (e:AJ) k c,([XR x41]:List SC)[k]? = some c→(m)[0+Yc cR*1+k]? = some (c.den e):=fun e k c hk=>cd k _ (Ak hk)
   refine A9 5 (cR) rfl rfl (rfl) rfl (by decide) co (by rfl) (by rfl) (by rfl) bl (by rfl) bu bx (by kernel_rfl) fun ba (cp:Kn _ [(g,0),(q,x+Yc aA*1),(af,0+Yc cR*1),(aj,0+Yc cR*1)] ((tP 41 3 0)::(tI 40 (Ya (eJ-1)))::(tI 37 cR)::(tS 36 a aB.length d)::(Gr aA l bK bL a aB d)) _)=>?_
   obtain⟨ac,b5,f⟩:=Ao f
   obtain⟨d6,d7,bz⟩:=Cl b5
   refine wl fun K hK=>?_
   refine B4 0 3 0 (0+Yc cR*1) (.c (XR (Ya (eJ-1)))) cp dc rfl rfl (by rfl) (by rfl) rfl rfl bl rfl (by kernel_rfl) (A3 (sz:=1) rfl u a5) fun dw cq dd=>?_
   have ce:Ae ah ac (m.take (0+Yc cR*1+0)++([.int .i64 (Ya (eJ-1))]:Ye)++m.drop (0+Yc cR*1+0+1)):=by rw [bz]; exact Df (sz:=1) rfl u a5 (Ad:rep ah (Ya (eJ-1):Int) _)
   have br:aB.length=ac.length:=by rw [bz]; simp
   have cr:Kn 43 [(g,0),(q,x+Yc aA*1),(af,0+Yc cR*1),(aj,0+Yc cR*1)] [(41,.one (.c (.ptr 3 0))),(40,.one (.c (XR (Ya (eJ-1))))),(37,.one (.c (XR cR))),(36,.one (.c (Yb a ac.length d))),(19,.one (.c (XR aA))),(18,.one (.c (XR ((l.length:Nat):Int)))),(17,.one (.c (Yb bK l.length bL))),(5,.one (.c (Yb a ac.length d)))] ba:=by rw [← br]; exact cq
   have bp:Ai ⟨w,h,BF⟩ ah [(g,0),(q,x+Yc aA*1),(af,0+Yc cR*1),(aj,0+Yc cR*1)] [⟨[Yb p y.room.length s,Yb z y.lG.length aa,XR y.broken],some 51⟩,⟨[XR cR],none⟩,⟨[],none⟩,⟨[],none⟩] [⟨a,ac.length,d,3,1,m.take (0+Yc cR*1+0)++([.int .i64 (Ya (eJ-1))]:Ye)++m.drop (0+Yc cR*1+0+1),0⟩] dw:=by rw [← br]; exact dd
   refine hK _ _ ?_
   have ct:Kn _ _ [tI 19 aA,tI 18 ((l.length:Nat):Int),tS 17 bK l.length bL,tS 5 a ac.length d] _:=cr.kp
   refine wf (Aa (Rk 0 2 [tI 19 (Ya (aA+1)),tI 18 ((l.length:Nat):Int),tS 17 bK l.length bL,tS 5 a ac.length d] ct bp fun ef cu=>?_))
   refine wf ?_
   exact XY aw ⟨Y4 _,XY ac ⟨Ya (aA+1),a,d,m.take (0+Yc cR*1+0)++([.int .i64 (Ya (eJ-1))]:Ye)++m.drop (0+Yc cR*1+0+1),_,_,rfl,(cu.keep [19,18,17,5] (by rfl)).cut 1 (by kernel_rfl),bp.cutPl 1 (by kernel_rfl),XU am bo,ce,f⟩⟩
  rw [a1,XV] at f
  refine wp_exit ?_
  obtain rfl:=XZ f
  exact XY aB ⟨a,d,m,_,_,rfl,a4.kp,a9,am,u,rfl⟩
 rintro _ eu ⟨ax,bf,bh,be,bb,aq,rfl,cv,bq,d5,d4,rfl⟩
 rw [Ex.bind_go] at H
 refine XT (Aa (Rk 0 1 [tB 4 true] cv bq fun eh cw=>?_))
 refine wf (wp_ret ?_)
 obtain rfl:=XZ H
 exact rt (.one (.c (.bool true))) cw bq rfl
theorem IJ (n:Nat) {h:Ac} {w:World} (hh:CK h w) (x:List Int) {eX:Yd} {eY:Nat} (iL:At h eX eY x) {r:Int} (H:CT n x=some r) :
  Calls Tryz.prog 61 #[.slice eX x.length eY] w (CP (fun h v=>v=.int .i64 r) h w):=by
 refine enter 25 [.c (Yb eX x.length eY)] Tryz.func61 rfl rfl rfl rfl fun t hk=>?_
 have hm:=Ai.begin h w hh
 unfold CT at H
 refine XT (Aa (Rk 0 1 [tS 0 eX x.length eY] hk hm fun bc al=>?_))
 refine wf (XT (XT (Aa (Rk 0 3 [tB 7 (decide (((x.length:Nat):Int)<1)),tS 0 eX x.length eY] al hm fun bf ad=>?_))))
 refine wf (wC (decide (((x.length:Nat):Int)<1)) ad (fun m=>?_) (fun m=>?_))
 ·
  rw [m,XW] at H
  cases H
 rw [m,XV] at H
 refine wp_skip (XT (Aa (Rk 0 1 [tS 9 eX x.length eY,tS 0 eX x.length eY] ad hm fun bk ax=>?_)))
 obtain⟨iM,kU,H⟩:=Ao H
 obtain⟨ay,a0,a4⟩:=Aj kU
 obtain⟨d,e,a9,ag,a2,ai⟩:=iL.get (by decide) a4
 obtain rfl:=a2
 have s:=hm.addPlc (b:=d) (o:=e+Yc 0*1) (cs:=[XR iM]) (fun j c hj=>ai j _ (Ak hj)) rfl (by kernel_rfl) (by kernel_rfl)
 refine A9 1 (0) rfl rfl (rfl) rfl (by decide) ax (by rfl) (by rfl) (by rfl) ag (by rfl) ay a0 (by kernel_rfl) fun a7 (ak:Kn _ [(d,e+Yc 0*1)] [tP 10 0 0,tS 9 eX x.length eY,tS 0 eX x.length eY] _)=>?_
 refine Rk 2 2 [tI 3 iM,tS 0 eX x.length eY] ak s fun bd am=>?_
 refine wf (XT (XT (Aa (Rk 0 1 [tI 4 1,tI 3 iM,tS 0 eX x.length eY] am s fun be an=>?_))))
 refine wf ?_
 obtain⟨g,ac,H⟩:=Ao H
 refine Ar (fun a' w'=>∃ (z:Array Value)(i:Ac),a' = ⟨z,[]⟩∧Kn 25 [(d,e+Yc 0*1)] [tI 3 g] z∧Ai ⟨w,h,BF⟩ i [(d,e+Yc 0*1)] [⟨[XR iM],none⟩] [] w'∧Ac.le h i) ?_ ?_
 ·
  refine wp_block ?_
  refine Av (fun a6 a' w'=>∃ (aB:Int)(aA:Int)(aa:Array Value)(k:Ac),a' = ⟨aa,[]⟩∧Kn 25 [(d,e+Yc 0*1)] [tI 4 aB,tI 3 aA,tS 0 eX x.length eY] aa∧Ai ⟨w,h,BF⟩ k [(d,e+Yc 0*1)] [⟨[XR iM],none⟩] [] w'∧Ac.le h k∧B5 a6 x aB aA=some g) n ?_ ?_
  ·
   exact XY 1 ⟨iM,_,_,rfl,an.kp,s,Ac.le_refl _,ac⟩
  rintro y _ bm ⟨aB,aA,aa,k,rfl,ao,f,q,a⟩
  clear ac
  obtain _ | y:=y
  ·
   rw [B5] at a; cases a
  rw [B5] at a
  replace iL:=iL.mono q
  refine XT (XT (Aa (Rk 0 4 [tB 15 (decide (aB<((x.length:Nat):Int))),tI 4 aB,tI 3 aA,tS 0 eX x.length eY] ao f fun bg p=>?_)))
  refine wf (wC (decide (aB<((x.length:Nat):Int))) p (fun l=>?_) (fun l=>?_))
  ·
   rw [l,XW] at a
   refine wp_skip (XT (wp_block (Aa (Rk 0 3 [tI 20 aB,tS 19 eX x.length eY,tI 18 aA,tI 4 aB,tS 0 eX x.length eY] p f fun bh ap=>?_))))
   obtain⟨cR,iY,a⟩:=Ao a
   obtain⟨az,a1,a5⟩:=Aj iY
   obtain⟨ab,af,ba,ah,a3,aj⟩:=iL.get (by decide) a5
   obtain rfl:=a3
   have u:=f.addPlc (b:=ab) (o:=af+Yc aB*1) (cs:=[XR cR]) (fun j c hj=>aj j _ (Ak hj)) rfl (by kernel_rfl) (by kernel_rfl)
   refine A9 3 (aB) rfl rfl (rfl) rfl (by decide) ap (by rfl) (by rfl) (by rfl) ah (by rfl) az a1 (by kernel_rfl) fun a8 (aq:Kn _ [(d,e+Yc 0*1),(ab,af+Yc aB*1)] [tP 21 1 0,tI 20 aB,tS 19 eX x.length eY,tI 18 aA,tI 4 aB,tS 0 eX x.length eY] _)=>?_
   refine Rk 4 3 [tI 3 (if cR>aA then cR else aA),tI 4 aB,tS 0 eX x.length eY] aq u fun bi ar=>?_
   refine wf (Aa (Rk 0 3 [tI 4 (Ya (aB+1)),tI 3 (if cR>aA then cR else aA),tS 0 eX x.length eY] ar u fun bj au=>?_))
   refine wf ?_
   exact XY y ⟨Y4 _,XY (Ya (aB+1)) ⟨(if cR>aA then cR else aA),_,_,rfl,(au.keep [4,3,0] (by rfl)).cut 1 (by kernel_rfl),u.cutPl 1 (by kernel_rfl),q,a⟩⟩
  rw [l,XV] at a
  refine wp_exit ?_
  obtain rfl:=XZ a
  exact XY _ ⟨_,rfl,p.kp,f,q⟩
 rintro _ bn ⟨z,i,rfl,av,ae,bb⟩
 refine XT (Aa (Rk 0 2 [tI 2 g] av ae fun bl aw=>?_))
 refine wf (wp_ret ?_)
 obtain rfl:=XZ H
 exact rt (.one (.c (XR g))) aw ae rfl
theorem Hc (n:Nat) {h:Ac} {w:World} (hh:CK h w) (l:List Int) {bK:Yd} {bL:Nat} (dP:At h bK bL l) {r:Int} (H:CN n l=some r) :
  Calls Tryz.prog 31 #[.slice bK l.length bL] w (CP (fun h v=>v=.int .i64 r) h w):=by
 refine enter 5 [.c (Yb bK l.length bL)] Tryz.func31 rfl rfl rfl rfl fun t hk=>?_
 have hm:=Ai.begin h w hh
 unfold CN at H
 refine XT (Aa (Rk 0 1 [tS 0 bK l.length bL] hk hm fun m f=>?_))
 refine wf (XT (Aa (Rk 0 1 [tS 3 bK l.length bL] f hm fun p g=>?_)))
 obtain⟨x4,ex4,H⟩:=Ao H
 refine wl fun K hK=>?_
 refine wc [.c (Yb bK l.length bL)] g hm (IJ n hm.has l dP ex4) fun q j s b k a=>?_
 obtain rfl:=b
 refine⟨.one (.c (XR x4)),rfl,fun i (d:Kn _ [] [tI 4 x4,tS 3 bK l.length bL] _)=>hK _ _ ?_⟩
 refine Rk 2 1 [tI 2 x4] d a fun o e=>?_
 refine wf (wp_ret ?_)
 obtain rfl:=XZ H
 exact rt (.one (.c (XR x4))) e a rfl
theorem HY (n:Nat) {h:Ac} {w:World} (hh:CK h w) (y:Am) {dQ:Ye} (eD:rep h y dQ) (n_:Int) {r:Bool} (H:DU n y n_=some r) :
  Calls Tryz.prog 62 #[.agg dQ.toArray,.int .i64 n_] w (CP (fun h v=>v=.bool r) h w):=by
 obtain⟨_,_,rfl,⟨b,e,rfl,z⟩,⟨_,_,rfl,⟨d,f,rfl,aa⟩,rfl⟩⟩:=eD
 refine enter 11 [.agg [Yb b y.room.length e,Yb d y.lG.length f,XR y.broken],.c (XR n_)] Tryz.func62 rfl rfl rfl rfl fun t hk=>?_
 have hm:=Ai.begin h w hh
 unfold DU at H
 refine XT (Aa (wl fun K hK=>?_))
 refine wb (.agg [Yb b y.room.length e,Yb d y.lG.length f,XR y.broken]) hk hm fun g s ag (k:Kn _ [(g,0)] [tP 2 0 0,tA 0 [Yb b y.room.length e,Yb d y.lG.length f,XR y.broken],tI 1 n_] _) a=>hK _ _ ?_
 refine Rk 1 1 [tP 2 0 0,tI 1 n_] k a fun ab l=>?_
 refine wf (XT (Aa (Rk 0 5 [tI 9 (Ya (((y.lG.length:Nat):Int)-1)),tI 5 n_] l a fun ac m=>?_)))
 obtain⟨iM,kU,H⟩:=Ao H
 refine wl fun K hK=>?_
 refine wc [.c (XR n_),.c (XR 0),.c (XR (Ya (((y.lG.length:Nat):Int)-1)))] m a (D3 n a.has n_ 0 (Ya (((y.lG.length:Nat):Int)-1)) kU) fun ae u af j x i=>?_
 obtain rfl:=j
 refine⟨.one (.c (.bool iM)),rfl,fun q (o:Kn _ [(g,0)] [tB 10 iM,tI 9 (Ya (((y.lG.length:Nat):Int)-1)),tI 5 n_] _)=>hK _ _ ?_⟩
 refine Rk 6 1 [tB 4 iM] o i fun ad p=>?_
 refine wf (wp_ret ?_)
 obtain rfl:=XZ H
 exact rt (.one (.c (.bool iM))) p i rfl
abbrev NA (a d e g)(k:Nat)(aB:Int):=([(a,0),(d,0),(e,0),(g,k+Yc aB*1)]:AJ)
abbrev S1:List SC:=[XR 0,XR 0,XR 0,XR 0,XR 0,XR 0,XR 0,XR 0]
abbrev Qt (a d e g)(k:Nat)(aB:Int)(aa)(ac:Nat)(cB:Int):=([(a,0),(d,0),(e,0),(g,k+Yc aB*1),(aa,ac+Yc cB*3)]:AJ)
abbrev WQ (us0:A0):=([XR us0.a0,XR us0.a1,XR us0.a2,XR us0.a3,XR us0.a4,XR us0.a5,XR us0.a6,XR us0.a7]:List SC)
abbrev Pk (l:(A0×A1)):=([XR l.1.a0,XR l.1.a1,XR l.1.a2,XR l.1.a3,XR l.1.a4,XR l.1.a5,XR l.1.a6,XR l.1.a7]:List SC)
abbrev Pm (aB)(order:List Int)(aS aT aA):=([tI 19 aB,tI 18 ((order.length:Nat):Int),tS 17 aS order.length aT,tI 7 aA,tP 6 2 0,tP 4 1 0,tP 2 0 0]:TM)
abbrev MQ (aA aB cB)(order:List Int)(aS aT):=([tI 48 aA,tI 47 aB,tI 46 cB,tI 19 aB,tI 18 ((order.length:Nat):Int),tS 17 aS order.length aT,tP 6 2 0,tP 4 1 0,tP 2 0 0]:TM)
abbrev D5 (cB aB)(order:List Int)(aS aT aA):=((tI 9 cB)::(tI 8 aB)::(Pm aB order aS aT aA):TM)
theorem FL (n:Nat) {h:Ac} {w:World} (hh:CK h w) (y:Am) {dQ:Ye} (eD:rep h y dQ) (order:List Int) {aS:Yd} {aT:Nat} (dR:At h aS aT order) {r:A0×Bool} (H:Cv n y order=some r) :
  Calls Tryz.prog 34 #[.agg dQ.toArray,.slice aS order.length aT] w (CP (fun h v=>∃ v0 v1,v=.tuple #[v0,v1]∧(∃ cs,v0=.agg cs.toArray∧rep h r.1 cs)∧(v1=.bool r.2)) h w):=by
 obtain⟨_,_,rfl,⟨q,s,rfl,al⟩,⟨_,_,rfl,⟨m,p,rfl,ab⟩,rfl⟩⟩:=eD
 refine enter 60 [.agg (Mh q y s m p),.c (Yb aS order.length aT)] Tryz.func34 rfl rfl rfl rfl fun t hk=>?_
 have hm:=Ai.begin h w hh
 unfold Cv at H
 refine XT (Aa (wl fun K hK=>?_))
 refine wb (.agg (Mh q y s m p)) hk hm fun a eo f5 (cg:Kn _ [(a,0)] [tP 2 0 0,tA 0 (Mh q y s m p),tS 1 aS order.length aT] _) dr=>hK _ _ ?_
 refine wl fun K hK=>?_
 refine wa S1 cg dr fun d ei fv (ct:Kn _ [(a,0),(d,0)] [tP 4 1 0,tP 2 0 0,tA 0 (Mh q y s m p),tS 1 aS order.length aT] _) ak=>hK _ _ ?_
 refine Rk 2 1 [tP 4 1 0,tP 2 0 0,tS 1 aS order.length aT] ct ak fun fb cz=>?_
 refine wf (XT (XT (Aa (Rk 0 6 [tB 15 (((order.length:Nat):Int) != ((y.lG.length:Nat):Int)),tP 4 1 0,tP 2 0 0,tS 1 aS order.length aT] cz ak fun fc a9=>?_))))
 refine wf (wC ((((order.length:Nat):Int) != ((y.lG.length:Nat):Int))) a9 (fun ax=>?_) (fun ax=>?_))
 ·
  rw [ax,XW] at H
  refine XT (Aa (Rk 0 1 [tA 16 S1,tP 4 1 0] a9 ak fun fh c8=>?_))
  refine wl fun K hK=>?_
  refine DT 1 0 (.agg S1) S1 c8 ak fun f1 c9 bz=>hK _ _ ?_
  refine Rk 2 1 [tB 5 false,tP 4 1 0] c9 bz fun fi da=>?_
  refine wf (wp_ret ?_)
  obtain rfl:=XZ H
  exact rt (.tup [.agg S1,.c (.bool false)]) da bz ⟨_,_,rfl,⟨_,rfl,((Ab Ad (Ab Ad (Ab Ad (Ab Ad (Ab Ad (Ab Ad (Ab Ad Ad))))))):rep h ((A0.mk 0 0 0 0 0 0 0 0):A0) _)⟩,rfl⟩
 rw [ax,XV] at H
 refine wp_skip (XT (Aa (wl fun K hK=>?_)))
 refine wa [.bool false,.bool false,.bool false,.bool false,.bool false,.bool false,.bool false,.bool false] a9 ak fun e b5 f2 (db:Kn _ [(a,0),(d,0),(e,0)] [tP 6 2 0,tB 15 (((order.length:Nat):Int) != ((y.lG.length:Nat):Int)),tP 4 1 0,tP 2 0 0,tS 1 aS order.length aT] _) bg=>hK _ _ ?_
 have dc:Kn _ _ [tP 6 2 0,tP 4 1 0,tP 2 0 0,tS 1 aS order.length aT] _:=db.kp
 refine wf (XT (Aa (Rk 0 1 [tI 7 0,tP 6 2 0,tP 4 1 0,tP 2 0 0,tS 1 aS order.length aT] dc bg fun fj dd=>?_)))
 refine wf (XT (XT (Aa (Rk 0 3 [tI 19 0,tI 18 ((order.length:Nat):Int),tS 17 aS order.length aT,tI 7 0,tP 6 2 0,tP 4 1 0,tP 2 0 0] dd bg fun fk de=>?_))))
 refine wf ?_
 obtain⟨b0,bl,H⟩:=Ao H
 refine Ar (fun a' w'=>∃ (l:A0×A1)(bh:Array Value)(an:Ac),a' = ⟨bh,[]⟩∧Kn 60 [(a,0),(d,0),(e,0)] [tP 4 1 0] bh∧Ai ⟨w,h,BF⟩ an [(a,0),(d,0),(e,0)] [⟨Mh q y s m p,some 51⟩,⟨Pk l,some 98⟩,⟨[.bool l.2.a0,.bool l.2.a1,.bool l.2.a2,.bool l.2.a3,.bool l.2.a4,.bool l.2.a5,.bool l.2.a6,.bool l.2.a7],some 82⟩] [] w'∧Ac.le h an∧b0=.go l) ?_ ?_
 ·
  refine wp_block ?_
  refine Av (fun ef a' w'=>∃ (aB:Int)(aA:Int)(aC:A0)(cA:A1)(bi:Array Value)(af:Ac),a' = ⟨bi,[]⟩∧Kn 60 [(a,0),(d,0),(e,0)] (Pm aB order aS aT aA) bi∧Ai ⟨w,h,BF⟩ af [(a,0),(d,0),(e,0)] [⟨Mh q y s m p,some 51⟩,⟨WQ aC,some 98⟩,⟨WP cA,some 82⟩] [] w'∧Ac.le h af∧B6 ef y order aB aA aC cA=some b0) n ?_ ?_
  ·
   exact XY 0 ⟨0,A0.mk 0 0 0 0 0 0 0 0,A1.mk false false false false false false false false,_,_,rfl,de.kp,bg,Ac.le_refl _,bl⟩
  rintro am _ f3 ⟨aB,aA,aC,cA,bi,af,rfl,df,au,ai,f⟩
  clear bl
  obtain _ | am:=am
  ·
   rw [B6] at f; cases f
  rw [B6] at f
  replace al:=al.mono ai
  replace ab:=ab.mono ai
  replace dR:=dR.mono ai
  refine XT (Aa (Rk 0 1 ((tB 20 (decide (aB<((order.length:Nat):Int))))::(Pm aB order aS aT aA)) df au fun fl ba=>?_))
  refine wf (XT (wC (decide (aB<((order.length:Nat):Int))) ba (fun ay=>?_) (fun ay=>?_)))
  ·
   rw [ay,XW] at f
   refine wp_skip (XT (wp_block (XT (Aa (Rk 0 1 ((tI 21 aB)::(Pm aB order aS aT aA)) ba au fun fm dg=>?_)))))
   obtain⟨cB,gL,f⟩:=Ao f
   obtain⟨dw,d2,ed⟩:=Aj gL
   obtain⟨g,k,ev,cc,d8,cf⟩:=dR.get (by decide) ed
   obtain rfl:=d8
   have av:=au.addPlc (b:=g) (o:=k+Yc aB*1) (cs:=[XR cB]) (fun j c hj=>cf j _ (Ak hj)) rfl (by kernel_rfl) (by kernel_rfl)
   refine A9 1 (aB) rfl rfl (rfl) rfl (by decide) dg (by rfl) (by rfl) (by rfl) cc (by rfl) dw d2 (by kernel_rfl) fun en (dh:Kn _ (NA a d e g k aB) ((tP 22 3 0)::(tI 21 aB)::(Pm aB order aS aT aA)) _)=>?_
   refine Rk 2 3 (D5 cB aB order aS aT aA) dh av fun fn di=>?_
   refine wf (XT (XT ?_))
   obtain⟨b1,u,f⟩:=Ao f
   refine Ar (fun a' w'=>∃ (bj:Array Value)(ad:Ac),a' = ⟨bj,[]⟩∧Kn 60 (NA a d e g k aB) [tI 9 cB,tI 8 aB,tI 19 aB,tI 18 ((order.length:Nat):Int),tS 17 aS order.length aT,tI 7 aA,tP 6 2 0,tP 4 1 0,tP 2 0 0,tB 42 b1] bj∧Ai ⟨w,h,BF⟩ ad (NA a d e g k aB) [⟨Mh q y s m p,some 51⟩,⟨WQ aC,some 98⟩,⟨WP cA,some 82⟩,⟨[XR cB],none⟩] [] w'∧Ac.le af ad) ?_ ?_
   ·
    refine Aa (Rk 0 2 ((tI 25 cB)::(tA 24 (Mh q y s m p))::(D5 cB aB order aS aT aA)) di av fun fo dj=>?_)
    obtain⟨cJ,gD,u⟩:=Ao u
    refine wl fun K hK=>?_
    refine wc [.agg (Mh q y s m p),.c (XR cB)] dj av (HY am av.has y ((Ab (Af al) (Ab (Af ab) Ad)):rep af y _) cB gD) fun fs ex f4 b9 ap z=>?_
    replace ab:=ab.mono ap
    obtain rfl:=b9
    refine⟨.one (.c (.bool cJ)),rfl,fun ep (dk:Kn _ (NA a d e g k aB) ((tB 26 cJ)::(tI 25 cB)::(tA 24 (Mh q y s m p))::(D5 cB aB order aS aT aA)) _)=>hK _ _ ?_⟩
    refine Rk 3 2 ((tB 28 (!cJ))::(D5 cB aB order aS aT aA)) dk z fun b6 br=>?_
    rcases Y2 ((!cJ)) with ah | ah
    ·
     rw [ah,XW] at u
     have dl:Kn _ _ ((tB 28 true)::(D5 cB aB order aS aT aA)) _:=(br.setB 28 true (by rfl) ah).kp
     refine Rk 5 14 ((tB 42 true)::(D5 cB aB order aS aT aA)) dl z fun fp dm=>?_
     refine wf ?_
     obtain rfl:=XZ u
     exact XY _ ⟨_,rfl,dm.kp,z,ap⟩
    rw [ah,XV] at u
    have dp:Kn _ _ ((tB 28 false)::(D5 cB aB order aS aT aA)) _:=(br.setB 28 false (by rfl) ah).kp
    refine Rk 5 1 ((tI 29 cB)::(tB 28 false)::(D5 cB aB order aS aT aA)) dp z fun fq bb=>?_
    obtain⟨dM,iA,u⟩:=Ao u
    obtain⟨dx,d3⟩:=BI iA
    refine Eg 6 (.one (.c (.ptr 2 (0+Yc cB*1)))) rfl (Al bb (by kernel_rfl)) rfl (AZ (E:=4) bb rfl (by kernel_rfl) (by kernel_rfl) (by rfl) (by rfl) dx d3) (bb.put (by decide) _) fun er (bc:Kn _ (NA a d e g k aB) ((tP 30 2 (0+Yc cB*1))::(tI 29 cB)::(tB 28 false)::(D5 cB aB order aS aT aA)) _)=>?_
    obtain⟨eH,jF,u⟩:=Ao u
    obtain⟨_,_,ee⟩:=Aj jF
    refine Eg 7 (.one (.c (.bool eH))) rfl (Al bc (by kernel_rfl)) rfl (CA bc z.plOk rfl (by rfl) rfl (by kernel_rfl) (F8 (fun(y:Bool)=>([.bool y]:List SC)) 1 (fun _=>rfl) [] [] cA.toL _ _ ee rfl rfl)) (bc.put (by decide) _) fun eg (ch:Kn _ (NA a d e g k aB) ((tB 31 eH)::(tP 30 2 (0+Yc cB*1))::(tI 29 cB)::(tB 28 false)::(D5 cB aB order aS aT aA)) _)=>?_
    refine Rk 8 2 ((tB 33 eH)::(D5 cB aB order aS aT aA)) ch z fun b3 bn=>?_
    rcases Y2 (eH) with ag | ag
    ·
     rw [Ba ag] at u
     have ci:Kn _ _ ((tB 33 true)::(D5 cB aB order aS aT aA)) _:=(bn.setB 33 true (by rfl) ag).kp
     refine Rk 10 9 ((tB 42 true)::(D5 cB aB order aS aT aA)) ci z fun e3 cj=>?_
     refine wf ?_
     obtain rfl:=XZ u
     exact XY _ ⟨_,rfl,cj.kp,z,ap⟩
    rw [Bb ag] at u
    have ck:Kn _ _ ((tB 33 false)::(D5 cB aB order aS aT aA)) _:=(bn.setB 33 false (by rfl) ag).kp
    refine Rk 10 3 ((tI 36 cB)::(tS 35 m y.lG.length p)::(tB 33 false)::(D5 cB aB order aS aT aA)) ck z fun e4 bo=>?_
    obtain⟨cK,iB,u⟩:=Ao u
    obtain⟨ds,dy,d9⟩:=Aj iB
    obtain⟨bk,b2,et,ca,d6,cd⟩:=ab.get (by decide) d9
    obtain⟨_,_,rfl,rfl,⟨_,_,rfl,rfl,rfl⟩⟩:=d6
    have bt:=z.addPlc (b:=bk) (o:=b2+Yc cB*3) (cs:=[XR cK.lo,XR cK.hi,XR cK.turn]) (fun j c hj=>cd j _ (Ak hj)) rfl (by kernel_rfl) (by kernel_rfl)
    refine A9 13 (cB) rfl rfl (Al bo (by kernel_rfl)) rfl (by decide) bo (by rfl) (by rfl) (by rfl) ca (by rfl) ds dy (by kernel_rfl) fun eh (cl:Kn _ [(a,0),(d,0),(e,0),(g,k+Yc aB*1),(bk,b2+Yc cB*3)] ((tP 37 4 0)::(tI 36 cB)::(tS 35 m y.lG.length p)::(tB 33 false)::(D5 cB aB order aS aT aA)) _)=>?_
    refine Rk 14 5 ((tB 42 (decide (cK.hi<aA)))::(D5 cB aB order aS aT aA)) cl bt fun e5 cm=>?_
    refine wf ?_
    obtain rfl:=XZ u
    exact XY _ ⟨_,rfl,(cm.keep [9,8,19,18,17,7,6,4,2,42] (by rfl)).cut 4 (by kernel_rfl),bt.cutPl 4 (by kernel_rfl),ap⟩
   rintro _ ft ⟨bj,ad,rfl,a8,aq,ao⟩
   replace ab:=ab.mono ao
   refine wC (b1) a8 (fun aw=>?_) (fun aw=>?_)
   ·
    rw [Ba aw] at f
    refine XT (Aa (Rk 0 1 [tA 43 (WQ aC),tP 4 1 0] a8 aq fun e6 cn=>?_))
    refine wl fun K hK=>?_
    refine DT 1 0 (.agg (WQ aC)) (WQ aC) cn aq fun fu co bu=>hK _ _ ?_
    refine Rk 2 1 [tB 5 false,tP 4 1 0] co bu fun e7 cp=>?_
    refine wf (wp_ret ?_)
    obtain rfl:=XZ f
    obtain rfl:=XZ H
    exact rt (.tup [.agg (WQ aC),.c (.bool false)]) cp bu ⟨_,_,rfl,⟨_,rfl,((Ab Ad (Ab Ad (Ab Ad (Ab Ad (Ab Ad (Ab Ad (Ab Ad Ad))))))):rep ad (aC:A0) _)⟩,rfl⟩
   rw [Bb aw] at f
   refine wp_skip (XT (Aa (Rk 0 1 ((tI 44 cB)::(D5 cB aB order aS aT aA)) a8 aq fun e8 bp=>?_)))
   obtain⟨iI,kV,f⟩:=Ao f
   obtain⟨dt,dz⟩:=BI kV
   refine Eg 1 (.one (.c (.ptr 2 (0+Yc cB*1)))) rfl (rfl) rfl (AZ (E:=4) bp rfl (by kernel_rfl) (by kernel_rfl) (by rfl) (by rfl) dt dz) (bp.put (by decide) _) fun b4 (cq:Kn _ (NA a d e g k aB) ((tP 45 2 (0+Yc cB*1))::(tI 44 cB)::(D5 cB aB order aS aT aA)) _)=>?_
   obtain⟨x,b7,f⟩:=Ao f
   obtain⟨ez,e1,ea⟩:=A1.setI_some b7
   refine wl fun K hK=>?_
   refine DS 2 (0+(cB:Int).toNat*1) (.c (.bool true)) (WP x) cq aq rfl rfl (by rfl) (by rfl) (by rfl) (by kernel_rfl) (by refine decide_eq_true ?_; show(0+(cB:Int).toNat*1)+1≤8; omega) (F7 (fun(y:Bool)=>([.bool y]:List SC)) 1 (fun _=>rfl) [] [] cA.toL x.toL (cB:Int).toNat true ea (show(cB:Int).toNat<8 by omega) rfl rfl rfl) fun fw cr aj=>hK _ _ ?_
   have cu:Kn _ _ (D5 cB aB order aS aT aA) _:=cr.kp
   refine wf (Au (by kernel_rfl) ?_)
   replace aj:=aj.drew
   refine Ax [] (NA a d e g k aB) [⟨Mh q y s m p,some 51⟩,⟨WQ aC,some 98⟩,⟨WP x,some 82⟩,⟨[XR cB],none⟩] ?_
   refine Dr [0,1,2,3,4,5] (dn 5) ((tI 51 cB)::(tS 50 m y.lG.length p)::(MQ aA aB cB order aS aT)) cu aj fun e9 cv=>?_
   obtain⟨cO,jO,f⟩:=Ao f
   obtain⟨du,d0,eb⟩:=Aj jO
   obtain⟨aa,ac,eu,cb,d7,ce⟩:=ab.get (by decide) eb
   obtain⟨_,_,rfl,rfl,⟨_,_,rfl,rfl,rfl⟩⟩:=d7
   have bd:=aj.addPlc (b:=aa) (o:=ac+Yc cB*3) (cs:=(Qs cO)) (fun j c hj=>ce j _ (Ak hj)) rfl (by kernel_rfl) (by kernel_rfl)
   refine A5 6 (cB) (Qs cO) (fun _ _ _ _ _ h=>h) rfl rfl (rfl) rfl (by decide) (by kernel_rfl) (by kernel_rfl) cv aj.plOk (by rfl) (by rfl) (by rfl) cb (by rfl) du d0 (by kernel_rfl) fun ej (cw:Kn _ (Qt a d e g k aB aa ac cB) ((tP 52 4 0)::(tI 51 cB)::(tS 50 m y.lG.length p)::(MQ aA aB cB order aS aT)) _)=>?_
   refine Dr [7,8] (dn 8) ((tI 54 cO.lo)::(MQ aA aB cB order aS aT)) cw bd fun fa bq=>?_
   obtain⟨gA,jG,f⟩:=Ao f
   obtain⟨dv,d1⟩:=BI jG
   refine Jn 11 (.one (.c (.ptr 1 (0+Yc cB*1)))) (fun _ _ _ _ _ h=>h) rfl (by kernel_rfl) (by kernel_rfl) (rfl) rfl bd.plOk (fun _ h=>h) (fun w=>AZ (E:=3) bq rfl (by kernel_rfl) (by kernel_rfl) (by rfl) (by rfl) dv d1) (bq.put (by decide) _) fun ek (cx:Kn _ (Qt a d e g k aB aa ac cB) ((tP 57 1 (0+Yc cB*1))::(tI 54 cO.lo)::(MQ aA aB cB order aS aT)) _)=>?_
   refine Dl 9 fun K hK=>?_
   refine wS 3 1 [XR aA,XR cO.lo] cx bd fun ae el es (cy:Kn _ (Qt a d e g k aB aa ac cB) ((tS 55 ae 2 2)::(tP 57 1 (0+Yc cB*1))::(tI 54 cO.lo)::(MQ aA aB cB order aS aT)) _) be=>?_
   have az:Ae ad ([aA,cO.lo]:List Int) ([.int .i64 aA,.int .i64 cO.lo]:Ye):=⟨_,_,rfl,(Ad:rep ad (aA:Int) _),⟨_,_,rfl,(Ad:rep ad (cO.lo:Int) _),rfl⟩⟩
   refine hK _ _ be.plOk ?_
   obtain⟨bm,bs,d5,ar⟩:=be.settle (i:=0) rfl
   replace az:=az.mono bs
   replace ar:Ai _ _ (Qt a d e g k aB aa ac cB) [⟨Mh q y s m p,some 51⟩,⟨WQ aC,some 98⟩,⟨WP x,some 82⟩,⟨[XR cB],none⟩,⟨Qs cO,none⟩] [⟨ae,2,2,3,1,([.int .i64 aA,.int .i64 cO.lo]:Ye),_⟩] _:=ar
   have d4:At bm ae 2 ([aA,cO.lo]:List Int):=⟨_,az,d5,be.rowCap (i:=0) rfl⟩
   obtain⟨x56,ex56,f⟩:=Ao f
   refine Dl 10 fun K hK=>?_
   refine wc [.c (Yb ae 2 2)] cy ar (Hc am ar.has ([aA,cO.lo]:List Int) d4 ex56) fun fr ew fx b8 dq bv=>?_
   obtain rfl:=b8
   refine⟨.one (.c (XR x56)),rfl,fun em (c0:Kn _ (Qt a d e g k aB aa ac cB) ((tI 56 x56)::(tS 55 ae 2 2)::(tP 57 1 (0+Yc cB*1))::(tI 54 cO.lo)::(MQ aA aB cB order aS aT)) _)=>hK _ _ bv.plOk ?_⟩
   obtain⟨us0,eus0,f⟩:=Ao f
   obtain⟨e0,e2,ec⟩:=A0.setI_some eus0
   refine CU 12 rfl (by kernel_rfl) (by decide) (rfl) (by kernel_rfl) fun K hK=>?_
   refine DS 1 (0+(cB:Int).toNat*1) (.c (XR aB)) (WQ us0) c0 bv rfl rfl (by rfl) (by rfl) (by rfl) (by kernel_rfl) (by refine decide_eq_true ?_; show(0+(cB:Int).toNat*1)+1≤8; omega) (F7 (fun(y:Int)=>([XR y]:List SC)) 1 (fun _=>rfl) [] [] aC.toL us0.toL (cB:Int).toNat aB ec (show(cB:Int).toNat<8 by omega) rfl rfl rfl) fun fy c1 bf=>hK _ _ ?_
   refine Ax [] (Qt a d e g k aB aa ac cB) [⟨Mh q y s m p,some 51⟩,⟨WQ us0,some 98⟩,⟨WP x,some 82⟩,⟨[XR cB],none⟩,⟨Qs cO,none⟩] ?_
   refine Dr [13] [13,12,10,9,11,8,7,6,5,4,3,2,1,0] [tI 7 x56,tI 19 aB,tI 18 ((order.length:Nat):Int),tS 17 aS order.length aT,tP 6 2 0,tP 4 1 0,tP 2 0 0] c1 bf fun fd c2=>?_
   refine AL (by kernel_rfl) (Aa (Rk 0 2 [tI 19 (Ya (aB+1)),tI 7 x56,tI 18 ((order.length:Nat):Int),tS 17 aS order.length aT,tP 6 2 0,tP 4 1 0,tP 2 0 0] c2 bf fun fe c3=>?_))
   refine wf ?_
   exact XY am ⟨Y4 _,XY (Ya (aB+1)) ⟨x56,us0,x,_,_,rfl,(c3.keep [19,18,17,7,6,4,2] (by rfl)).cut 3 (by kernel_rfl),(bf.cutRw 0).cutPl 3 (by kernel_rfl),XU ai (XU ao (XU bs dq)),f⟩⟩
  rw [ay,XV] at f
  refine wp_exit ?_
  obtain rfl:=XZ f
  exact XY (aC,cA) ⟨_,_,rfl,ba.kp,au,ai,rfl⟩
 rintro _ fz ⟨l,bh,an,rfl,c4,bw,ey,rfl⟩
 rw [Ex.bind_go] at H
 refine XT (Aa (Rk 0 1 [tA 59 (Pk l),tP 4 1 0] c4 bw fun ff c5=>?_))
 refine wl fun K hK=>?_
 refine DT 1 0 (.agg (Pk l)) (Pk l) c5 bw fun f0 c6 bx=>hK _ _ ?_
 refine Rk 2 1 [tB 5 true,tP 4 1 0] c6 bx fun fg c7=>?_
 refine wf (wp_ret ?_)
 obtain rfl:=XZ H
 exact rt (.tup [.agg (Pk l),.c (.bool true)]) c7 bx ⟨_,_,rfl,⟨_,rfl,((Ab Ad (Ab Ad (Ab Ad (Ab Ad (Ab Ad (Ab Ad (Ab Ad Ad))))))):rep an (l.1:A0) _)⟩,rfl⟩
abbrev Mi (aB)(broken:List Int)(aW aX aA):=([tI 11 aB,tI 10 ((broken.length:Nat):Int),tS 9 aW broken.length aX,tI 6 aA,tP 4 1 0,tP 2 0 0,tS 1 aW broken.length aX]:TM)
abbrev Qv (broken:List Int)(aW aX):=([tI 10 ((broken.length:Nat):Int),tS 9 aW broken.length aX,tP 4 1 0,tP 2 0 0,tS 1 aW broken.length aX]:TM)
theorem Mj (n:Nat) {h:Ac} {w:World} (hh:CK h w) (y:Am) {dQ:Ye} (eD:rep h y dQ) (broken:List Int) {aW:Yd} {aX:Nat} (dO:At h aW aX broken) {r:A1×Bool} (H:Er n y broken=some r) :
  Calls Tryz.prog 63 #[.agg dQ.toArray,.slice aW broken.length aX] w (CP (fun h v=>∃ v0 v1,v=.tuple #[v0,v1]∧(∃ cs,v0=.agg cs.toArray∧rep h r.1 cs)∧(v1=.bool r.2)) h w):=by
 obtain⟨_,_,rfl,⟨g,k,rfl,ad⟩,⟨_,_,rfl,⟨i,l,rfl,ae⟩,rfl⟩⟩:=eD
 refine enter 35 [.agg (Mh g y k i l),.c (Yb aW broken.length aX)] Tryz.func63 rfl rfl rfl rfl fun t hk=>?_
 have hm:=Ai.begin h w hh
 unfold Er at H
 refine XT (Aa (wl fun K hK=>?_))
 refine wb (.agg (Mh g y k i l)) hk hm fun d cy dy (bm:Kn _ [(d,0)] [tP 2 0 0,tA 0 (Mh g y k i l),tS 1 aW broken.length aX] _) ci=>hK _ _ ?_
 refine wl fun K hK=>?_
 refine wa [.bool false,.bool false,.bool false,.bool false,.bool false,.bool false,.bool false,.bool false] bm ci fun e cu dt (b0:Kn _ [(d,0),(e,0)] [tP 4 1 0,tP 2 0 0,tA 0 (Mh g y k i l),tS 1 aW broken.length aX] _) ai=>hK _ _ ?_
 refine Rk 2 1 [tP 4 1 0,tP 2 0 0,tS 1 aW broken.length aX] b0 ai fun db b1=>?_
 refine wf (XT (Aa (Rk 0 1 [tI 6 (-1),tP 4 1 0,tP 2 0 0,tS 1 aW broken.length aX] b1 ai fun dc b2=>?_)))
 refine wf (XT (XT (Aa (Rk 0 3 [tI 11 0,tI 10 ((broken.length:Nat):Int),tS 9 aW broken.length aX,tI 6 (-1),tP 4 1 0,tP 2 0 0,tS 1 aW broken.length aX] b2 ai fun dd b3=>?_))))
 refine wf ?_
 obtain⟨bf,ay,H⟩:=Ao H
 refine Ar (fun a' w'=>∃ (a:A1)(av:Array Value)(ag:Ac),a' = ⟨av,[]⟩∧Kn 35 [(d,0),(e,0)] [tP 4 1 0,tP 2 0 0,tS 1 aW broken.length aX] av∧Ai ⟨w,h,BF⟩ ag [(d,0),(e,0)] [⟨Mh g y k i l,some 51⟩,⟨WP a,some 82⟩] [] w'∧Ac.le h ag∧bf=.go a) ?_ ?_
 ·
  refine wp_block ?_
  refine Av (fun cr a' w'=>∃ (aB:Int)(aA:Int)(aC:A1)(aw:Array Value)(x:Ac),a' = ⟨aw,[]⟩∧Kn 35 [(d,0),(e,0)] (Mi aB broken aW aX aA) aw∧Ai ⟨w,h,BF⟩ x [(d,0),(e,0)] [⟨Mh g y k i l,some 51⟩,⟨WP aC,some 82⟩] [] w'∧Ac.le h x∧Ci cr y broken aB aA aC=some bf) n ?_ ?_
  ·
   exact XY 0 ⟨(-1),A1.mk false false false false false false false false,_,_,rfl,b3.kp,ai,Ac.le_refl _,ay⟩
  rintro al _ du ⟨aB,aA,aC,aw,x,rfl,b4,ar,aa,f⟩
  clear ay
  obtain _ | al:=al
  ·
   rw [Ci] at f; cases f
  rw [Ci] at f
  replace ad:=ad.mono aa
  replace ae:=ae.mono aa
  replace dO:=dO.mono aa
  refine XT (Aa (Rk 0 1 ((tB 12 (decide (aB<((broken.length:Nat):Int))))::(Mi aB broken aW aX aA)) b4 ar fun de ao=>?_))
  refine wf (XT (wC (decide (aB<((broken.length:Nat):Int))) ao (fun am=>?_) (fun am=>?_)))
  ·
   rw [am,XW] at f
   refine wp_skip (XT (wp_block (XT (Aa ?_))))
   obtain⟨cC,fY,f⟩:=Ao f
   obtain⟨ck,cm,cp⟩:=Aj fY
   obtain⟨m,p,c0,bk,co,bl⟩:=dO.get (by decide) cp
   obtain rfl:=co
   have aj:=ar.addPlc (b:=m) (o:=p+Yc aB*1) (cs:=[XR cC]) (fun j c hj=>bl j _ (Ak hj)) rfl (by kernel_rfl) (by kernel_rfl)
   refine A9 0 (aB) rfl rfl (rfl) rfl (by decide) ao (by rfl) (by rfl) (by rfl) bk (by rfl) ck cm (by kernel_rfl) fun cw (b5:Kn _ (S2 d e m p aB) ((tP 13 2 0)::(tB 12 (decide (aB<((broken.length:Nat):Int))))::(Mi aB broken aW aX aA)) _)=>?_
   refine Rk 1 2 ((tI 8 cC)::(Mi aB broken aW aX aA)) b5 aj fun df b6=>?_
   refine wf (XT (XT ?_))
   obtain⟨bg,u,f⟩:=Ao f
   refine Ar (fun a' w'=>∃ (ax:Array Value)(ah:Ac),a' = ⟨ax,[]⟩∧Kn 35 (S2 d e m p aB) [tI 8 cC,tI 11 aB,tI 10 ((broken.length:Nat):Int),tS 9 aW broken.length aX,tP 4 1 0,tP 2 0 0,tS 1 aW broken.length aX,tB 23 bg] ax∧Ai ⟨w,h,BF⟩ ah (S2 d e m p aB) [⟨Mh g y k i l,some 51⟩,⟨WP aC,some 82⟩,⟨[XR cC],none⟩] [] w'∧Ac.le x ah) ?_ ?_
   ·
    refine Aa (Rk 0 2 ((tI 16 cC)::(tA 15 (Mh g y k i l))::(tI 8 cC)::(Mi aB broken aW aX aA)) b6 aj fun dg b7=>?_)
    obtain⟨dX,jW,u⟩:=Ao u
    refine wl fun K hK=>?_
    refine wc [.agg (Mh g y k i l),.c (XR cC)] b7 aj (HY al aj.has y ((Ab (Af ad) (Ab (Af ae) Ad)):rep x y _) cC jW) fun dm c1 dv bj bb ac=>?_
    obtain rfl:=bj
    refine⟨.one (.c (.bool dX)),rfl,fun cx (b8:Kn _ (S2 d e m p aB) ((tB 17 dX)::(tI 16 cC)::(tA 15 (Mh g y k i l))::(tI 8 cC)::(Mi aB broken aW aX aA)) _)=>hK _ _ ?_⟩
    refine Rk 3 2 ((tB 19 (!dX))::(tI 8 cC)::(Mi aB broken aW aX aA)) b8 ac fun bh a8=>?_
    rcases Y2 ((!dX)) with z | z
    ·
     rw [z,XW] at u
     have b9:Kn _ _ ((tB 19 true)::(tI 8 cC)::(Mi aB broken aW aX aA)) _:=(a8.setB 19 true (by rfl) z).kp
     refine Rk 5 4 ((tB 23 true)::(tI 8 cC)::(tI 11 aB)::(Qv broken aW aX)) b9 ac fun dh ca=>?_
     refine wf ?_
     obtain rfl:=XZ u
     exact XY _ ⟨_,rfl,ca.kp,ac,bb⟩
    rw [z,XV] at u
    have cb:Kn _ _ ((tB 19 false)::(tI 8 cC)::(Mi aB broken aW aX aA)) _:=(a8.setB 19 false (by rfl) z).kp
    refine Rk 5 4 ((tB 23 (decide (cC≤aA)))::(tI 8 cC)::(tI 11 aB)::(Qv broken aW aX)) cb ac fun di cc=>?_
    refine wf ?_
    obtain rfl:=XZ u
    exact XY _ ⟨_,rfl,cc.kp,ac,bb⟩
   rintro _ dw ⟨ax,ah,rfl,ap,ak,ch⟩
   refine wC (bg) ap (fun an=>?_) (fun an=>?_)
   ·
    rw [Ba an] at f
    refine XT (Aa (Rk 0 1 [tA 24 (WP aC),tP 4 1 0] ap ak fun dj cd=>?_))
    refine wl fun K hK=>?_
    refine DT 1 0 (.agg (WP aC)) (WP aC) cd ak fun dx ce bd=>hK _ _ ?_
    refine Rk 2 1 [tB 5 false,tP 4 1 0] ce bd fun dk cf=>?_
    refine wf (wp_ret ?_)
    obtain rfl:=XZ f
    obtain rfl:=XZ H
    exact rt (.tup [.agg (WP aC),.c (.bool false)]) cf bd ⟨_,_,rfl,⟨_,rfl,((Ab Ag (Ab Ag (Ab Ag (Ab Ag (Ab Ag (Ab Ag (Ab Ag Ag))))))):rep ah (aC:A1) _)⟩,rfl⟩
   rw [Bb an] at f
   refine wp_skip (Aa (Rk 0 2 ((tI 26 cC)::(tI 25 cC)::(tI 11 aB)::(Qv broken aW aX)) ap ak fun dl a9=>?_))
   obtain⟨dG,iP,f⟩:=Ao f
   obtain⟨cl,cn⟩:=BI iP
   refine Eg 2 (.one (.c (.ptr 1 (0+Yc cC*1)))) rfl (rfl) rfl (AZ (E:=4) a9 rfl (by kernel_rfl) (by kernel_rfl) (by rfl) (by rfl) cl cn) (a9.put (by decide) _) fun cz (cg:Kn _ (S2 d e m p aB) ((tP 27 1 (0+Yc cC*1))::(tI 26 cC)::(tI 25 cC)::(tI 11 aB)::(Qv broken aW aX)) _)=>?_
   obtain⟨q,bi,f⟩:=Ao f
   obtain⟨c3,c4,cq⟩:=A1.setI_some bi
   refine wl fun K hK=>?_
   refine DS 1 (0+(cC:Int).toNat*1) (.c (.bool true)) [.bool q.a0,.bool q.a1,.bool q.a2,.bool q.a3,.bool q.a4,.bool q.a5,.bool q.a6,.bool q.a7] cg ak rfl rfl (by rfl) (by rfl) (by rfl) (by kernel_rfl) (by refine decide_eq_true ?_; show(0+(cC:Int).toNat*1)+1≤8; omega) (F7 (fun(y:Bool)=>([.bool y]:List SC)) 1 (fun _=>rfl) [] [] aC.toL q.toL (cC:Int).toNat true cq (show(cC:Int).toNat<8 by omega) rfl rfl rfl) fun dz bn aq=>hK _ _ ?_
   refine Rk 4 1 ((tI 6 cC)::(tI 11 aB)::(Qv broken aW aX)) bn aq fun c5 bo=>?_
   refine wf (Aa (Rk 0 2 ((tI 11 (Ya (aB+1)))::(tI 6 cC)::(Qv broken aW aX)) bo aq fun c6 bp=>?_))
   refine wf ?_
   exact XY al ⟨Y4 _,XY (Ya (aB+1)) ⟨cC,q,_,_,rfl,(bp.keep [11,10,9,6,4,2,1] (by rfl)).cut 2 (by kernel_rfl),aq.cutPl 2 (by kernel_rfl),XU aa ch,f⟩⟩
  rw [am,XV] at f
  refine wp_exit ?_
  obtain rfl:=XZ f
  exact XY aC ⟨_,_,rfl,ao.kp,ar,aa,rfl⟩
 rintro _ dp ⟨a,av,ag,rfl,bq,s,ba,rfl⟩
 rw [Ex.bind_go] at H
 refine XT (Au (by kernel_rfl) ?_)
 replace s:=s.drew
 refine Ax [4] [(d,0),(e,0)] [⟨Mh g y k i l,some 51⟩,⟨WP a,some 82⟩] ?_
 refine Dr [0,1,2,3] (dn 3) [tP 32 0 2,tI 31 ((broken.length:Nat):Int),tA 29 (WP a),tP 4 1 0] bq s fun c7 az=>?_
 refine BT (fun W=>∀ a' w',(∃ (au:Array Value)(af:Ac),a' = ⟨au,[]⟩∧Kn 35 [(d,0),(e,0)] [tB 5 (decide (((broken.length:Nat):Int)≤y.broken)),tP 4 1 0] au∧Ai ⟨w,h,BF⟩ af [(d,0),(e,0)] [⟨Mh g y k i l,some 51⟩,⟨WP a,some 82⟩] [] w'∧Ac.le ag af)→W [(d,0),(e,0)] [⟨Mh g y k i l,some 51⟩,⟨WP a,some 82⟩] [7,5,4,6,3,2,1,0] a' w') ?_ (fun be=>?_)
 ·
  rintro _ dq ⟨au,af,rfl,br,cj,c2⟩
  refine AL (by kernel_rfl) (wp_ret ?_)
  obtain rfl:=XZ H
  exact rt (.tup [.agg (WP a),.c (.bool (decide (((broken.length:Nat):Int)≤y.broken)))]) br cj ⟨_,_,rfl,⟨_,rfl,((Ab Ag (Ab Ag (Ab Ag (Ab Ag (Ab Ag (Ab Ag (Ab Ag Ag))))))):rep af (a:A1) _)⟩,rfl⟩
 refine Gn 4 6 rfl rfl (by kernel_rfl) (by decide) (rfl) (rfl) (fun K hK=>?_) (fun K hK=>?_)
 ·
  refine Sl az s.plOk rfl (by decide) (by kernel_rfl) fun ct (bs:Kn _ [(d,0),(e,0)] [tI 33 y.broken,tP 32 0 2,tI 31 ((broken.length:Nat):Int),tA 29 (WP a),tP 4 1 0] _)=>hK _ _ s.plOk ?_
  refine Dr [5] (dn 5) [tB 34 (decide (((broken.length:Nat):Int)≤y.broken)),tA 29 (WP a),tP 4 1 0] bs s fun c8 bt=>?_
  refine CU 6 rfl (by kernel_rfl) (by decide) (rfl) (by kernel_rfl) fun K hK=>?_
  refine DT 1 0 (.agg (WP a)) (WP a) bt s fun dr bu bc=>hK _ _ ?_
  refine Ax [4] [(d,0),(e,0)] [⟨Mh g y k i l,some 51⟩,⟨WP a,some 82⟩] ?_
  refine Dr [7] (dn 7) [tB 5 (decide (((broken.length:Nat):Int)≤y.broken)),tP 4 1 0] bu bc fun c9 bv=>?_
  refine AK [7,5,4,6,3,2,1,0] (by kernel_rfl) (by rfl) (be _ _ ?_)
  exact XY _ ⟨_,rfl,bv.kp,bc,Ac.le_refl _⟩
 refine DT 1 0 (.agg (WP a)) (WP a) az s fun ds bw ab=>hK _ _ ab.plOk ?_
 refine Dl 4 fun K hK=>?_
 refine Sl bw ab.plOk rfl (by decide) (by kernel_rfl) fun cv (bx:Kn _ [(d,0),(e,0)] [tI 33 y.broken,tP 32 0 2,tI 31 ((broken.length:Nat):Int),tA 29 (WP a),tP 4 1 0] _)=>hK _ _ ab.plOk ?_
 refine Dr [5,7] [7,5,4,6,3,2,1,0] [tB 5 (decide (((broken.length:Nat):Int)≤y.broken)),tP 4 1 0] bx ab fun da bz=>?_
 refine AK [7,5,4,6,3,2,1,0] (by kernel_rfl) (by rfl) (be _ _ ?_)
 exact XY _ ⟨_,rfl,bz.kp,ab,Ac.le_refl _⟩
abbrev Pn (dM:A1×Bool):=([.bool dM.1.a0,.bool dM.1.a1,.bool dM.1.a2,.bool dM.1.a3,.bool dM.1.a4,.bool dM.1.a5,.bool dM.1.a6,.bool dM.1.a7]:List SC)
abbrev Po (dA:A0×Bool):=([XR dA.1.a0,XR dA.1.a1,XR dA.1.a2,XR dA.1.a3,XR dA.1.a4,XR dA.1.a5,XR dA.1.a6,XR dA.1.a7]:List SC)
abbrev Kt:List SC:=[Yb none 0 0,Yb none 0 0,XR 0,Yb none 0 0,XR 0,XR 0,XR 0,XR 0,XR 0,XR 0,XR 0,XR 0,.bool false,.bool false,.bool false,.bool false,.bool false,.bool false,.bool false,.bool false]
abbrev Uh (a)(y:Am)(d b e aU)(lanes:List Int)(aV)(dA:A0×Bool)(dM:A1×Bool):=([Yb a y.room.length d,Yb b y.lG.length e,XR y.broken,Yb aU lanes.length aV,XR dA.1.a0,XR dA.1.a1,XR dA.1.a2,XR dA.1.a3,XR dA.1.a4,XR dA.1.a5,XR dA.1.a6,XR dA.1.a7,.bool dM.1.a0,.bool dM.1.a1,.bool dM.1.a2,.bool dM.1.a3,.bool dM.1.a4,.bool dM.1.a5,.bool dM.1.a6,.bool dM.1.a7]:List SC)
abbrev G9 (aU)(lanes:List Int)(aV):=([tP 11 2 0,tP 8 1 0,tP 4 0 0,tS 1 aU lanes.length aV]:TM)
theorem Hd (n:Nat) {h:Ac} {w:World} (hh:CK h w) (y:Am) {dQ:Ye} (eD:rep h y dQ) (lanes:List Int) {aU:Yd} {aV:Nat} (cU:At h aU aV lanes) (order:List Int) {aS:Yd} {aT:Nat} (dR:At h aS aT order) (broken:List Int) {aW:Yd} {aX:Nat} (dO:At h aW aX broken) {r:Cz×Int} (H:Dc n y lanes order broken=some r) :
  Calls Tryz.prog 35 #[.agg dQ.toArray,.slice aU lanes.length aV,.slice aS order.length aT,.slice aW broken.length aX] w (CP (fun h v=>∃ v0 v1,v=.tuple #[v0,v1]∧(∃ cs,v0=.agg cs.toArray∧rep h r.1 cs)∧(v1=.int .i64 r.2)) h w):=by
 obtain⟨_,_,rfl,⟨a,d,rfl,i⟩,⟨_,_,rfl,⟨b,e,rfl,j⟩,rfl⟩⟩:=eD
 refine enter 51 [.agg (Mh a y d b e),.c (Yb aU lanes.length aV),.c (Yb aS order.length aT),.c (Yb aW broken.length aX)] Tryz.func35 rfl rfl rfl rfl fun t hk=>?_
 have hm:=Ai.begin h w hh
 unfold Dc at H
 refine XT (Aa (wl fun K hK=>?_))
 refine wb (.agg (Mh a y d b e)) hk hm fun f co dt (bd:Kn _ [(f,0)] [tP 4 0 0,tA 0 (Mh a y d b e),tS 1 aU lanes.length aV,tS 2 aS order.length aT,tS 3 aW broken.length aX] _) ce=>hK _ _ ?_
 refine wl fun K hK=>?_
 refine wa Kt bd ce fun g ci dj (bo:Kn _ [(f,0),(g,0)] [tP 8 1 0,tP 4 0 0,tA 0 (Mh a y d b e),tS 1 aU lanes.length aV,tS 2 aS order.length aT,tS 3 aW broken.length aX] _) ab=>hK _ _ ?_
 refine Rk 2 1 [tP 8 1 0,tP 4 0 0,tS 1 aU lanes.length aV,tS 2 aS order.length aT,tS 3 aW broken.length aX] bo ab fun cx bp=>?_
 refine wf (XT (XT (Aa (Rk 0 1 [tA 15 (Mh a y d b e),tP 8 1 0,tP 4 0 0,tS 1 aU lanes.length aV,tS 2 aS order.length aT,tS 3 aW broken.length aX] bp ab fun cy bq=>?_))))
 obtain⟨cT,fT,H⟩:=Ao H
 refine wl fun K hK=>?_
 refine wc [.agg (Mh a y d b e)] bq ab (Fm n ab.has y ((Ab (Af i) (Ab (Af j) Ad)):rep h y _) fT) fun dc ak dk a9 x p=>?_
 replace i:=i.mono x
 replace j:=j.mono x
 replace cU:=cU.mono x
 replace dR:=dR.mono x
 replace dO:=dO.mono x
 obtain rfl:=a9
 refine⟨.one (.c (XR cT)),rfl,fun cj (br:Kn _ [(f,0),(g,0)] [tI 16 cT,tA 15 (Mh a y d b e),tP 8 1 0,tP 4 0 0,tS 1 aU lanes.length aV,tS 2 aS order.length aT,tS 3 aW broken.length aX] _)=>hK _ _ ?_⟩
 refine Rk 2 1 [tI 10 cT,tP 8 1 0,tP 4 0 0,tS 1 aU lanes.length aV,tS 2 aS order.length aT,tS 3 aW broken.length aX] br p fun cz bs=>?_
 refine wf (XT (Aa (Rk 0 2 [tB 18 (cT != 0),tI 10 cT,tP 8 1 0,tP 4 0 0,tS 1 aU lanes.length aV,tS 2 aS order.length aT,tS 3 aW broken.length aX] bs p fun c0 ag=>?_)))
 refine wf (wC ((cT != 0)) ag (fun ae=>?_) (fun ae=>?_))
 ·
  rw [ae,XW] at H
  refine XT (Aa (Rk 0 2 [tI 20 cT,tA 19 Kt,tP 8 1 0] ag p fun c1 bt=>?_))
  refine wl fun K hK=>?_
  refine DT 1 0 (.agg Kt) Kt bt p fun dl bu au=>hK _ _ ?_
  refine Rk 3 1 [tI 9 cT,tP 8 1 0] bu au fun c2 bv=>?_
  refine wf (wp_ret ?_)
  obtain rfl:=XZ H
  exact rt (.tup [.agg Kt,.c (XR cT)]) bv au ⟨_,_,rfl,⟨_,rfl,((Ab (Ab (Af At.nil) (Ab (Af At.nil) Ad)) (Ab (Af At.nil) (Ab (Ab Ad (Ab Ad (Ab Ad (Ab Ad (Ab Ad (Ab Ad (Ab Ad Ad))))))) (Ab Ag (Ab Ag (Ab Ag (Ab Ag (Ab Ag (Ab Ag (Ab Ag Ag)))))))))):rep ak ((Cz.mk (Am.mk ([]:List Int) ([]:List Cn) 0) ([]:List Int) (A0.mk 0 0 0 0 0 0 0 0) (A1.mk false false false false false false false false)):Cz) _)⟩,rfl⟩
 rw [ae,XV] at H
 refine wp_skip (XT (Aa (Rk 0 2 [tS 23 aS order.length aT,tA 22 (Mh a y d b e),tP 8 1 0,tP 4 0 0,tS 1 aU lanes.length aV,tS 3 aW broken.length aX] ag p fun c3 bw=>?_)))
 obtain⟨dA,gV,H⟩:=Ao H
 refine wl fun K hK=>?_
 refine wc [.agg (Mh a y d b e),.c (Yb aS order.length aT)] bw p (FL n p.has y ((Ab (Af i) (Ab (Af j) Ad)):rep ak y _) order dR gV) fun dd bc dm ba z av=>?_
 replace i:=i.mono z
 replace j:=j.mono z
 replace dO:=dO.mono z
 obtain⟨_,_,rfl,⟨_,rfl,⟨_,_,rfl,rfl,⟨_,_,rfl,rfl,⟨_,_,rfl,rfl,⟨_,_,rfl,rfl,⟨_,_,rfl,rfl,⟨_,_,rfl,rfl,⟨_,_,rfl,rfl,rfl⟩⟩⟩⟩⟩⟩⟩⟩,rfl⟩:=ba
 refine⟨.tup [.agg (Po dA),.c (.bool dA.2)],rfl,fun ck (bx:Kn _ [(f,0),(g,0)] [(24,.tup [.agg (Po dA),.c (.bool dA.2)]),tS 23 aS order.length aT,tA 22 (Mh a y d b e),tP 8 1 0,tP 4 0 0,tS 1 aU lanes.length aV,tS 3 aW broken.length aX] _)=>hK _ _ ?_⟩
 refine Rk 3 3 [tB 26 dA.2,tA 25 (Po dA),tP 8 1 0,tP 4 0 0,tS 1 aU lanes.length aV,tS 3 aW broken.length aX] bx av fun c4 bz=>?_
 refine wl fun K hK=>?_
 refine wa [XR 0,XR 0,XR 0,XR 0,XR 0,XR 0,XR 0,XR 0] bz av fun k cl dn (b0:Kn _ [(f,0),(g,0),(k,0)] [tP 11 2 0,tB 26 dA.2,tA 25 (Po dA),tP 8 1 0,tP 4 0 0,tS 1 aU lanes.length aV,tS 3 aW broken.length aX] _) cf=>hK _ _ ?_
 refine wl fun K hK=>?_
 refine DT 2 0 (.agg (Po dA)) (Po dA) b0 cf fun dp b1 ac=>hK _ _ ?_
 refine Rk 8 1 [tB 12 dA.2,tP 11 2 0,tP 8 1 0,tP 4 0 0,tS 1 aU lanes.length aV,tS 3 aW broken.length aX] b1 ac fun c5 b2=>?_
 refine wf (XT (Aa (Rk 0 2 ((tS 29 aW broken.length aX)::(tA 28 (Mh a y d b e))::(tB 12 dA.2)::(G9 aU lanes aV)) b2 ac fun c6 b3=>?_)))
 obtain⟨dM,iA,H⟩:=Ao H
 refine wl fun K hK=>?_
 refine wc [.agg (Mh a y d b e),.c (Yb aW broken.length aX)] b3 ac (Mj n ac.has y ((Ab (Af i) (Ab (Af j) Ad)):rep bc y _) broken dO iA) fun de al dq bb ai aw=>?_
 replace i:=i.mono ai
 replace j:=j.mono ai
 replace cU:=cU.mono (XU z ai)
 obtain⟨_,_,rfl,⟨_,rfl,⟨_,_,rfl,rfl,⟨_,_,rfl,rfl,⟨_,_,rfl,rfl,⟨_,_,rfl,rfl,⟨_,_,rfl,rfl,⟨_,_,rfl,rfl,⟨_,_,rfl,rfl,rfl⟩⟩⟩⟩⟩⟩⟩⟩,rfl⟩:=bb
 refine⟨.tup [.agg (Pn dM),.c (.bool dM.2)],rfl,fun cm (b4:Kn _ [(f,0),(g,0),(k,0)] ((30,.tup [.agg (Pn dM),.c (.bool dM.2)])::(tS 29 aW broken.length aX)::(tA 28 (Mh a y d b e))::(tB 12 dA.2)::(G9 aU lanes aV)) _)=>hK _ _ ?_⟩
 refine Rk 3 3 ((tB 32 dM.2)::(tA 31 (Pn dM))::(tB 12 dA.2)::(G9 aU lanes aV)) b4 aw fun c7 b5=>?_
 refine wl fun K hK=>?_
 refine wa [.bool false,.bool false,.bool false,.bool false,.bool false,.bool false,.bool false,.bool false] b5 aw fun o cn dr (b6:Kn _ [(f,0),(g,0),(k,0),(o,0)] ((tP 13 3 0)::(tB 32 dM.2)::(tA 31 (Pn dM))::(tB 12 dA.2)::(G9 aU lanes aV)) _) cg=>hK _ _ ?_
 refine wl fun K hK=>?_
 refine DT 3 0 (.agg (Pn dM)) (Pn dM) b6 cg fun ds b7 l=>hK _ _ ?_
 refine Rk 8 1 ((tB 14 dM.2)::(tP 13 3 0)::(tB 12 dA.2)::(G9 aU lanes aV)) b7 l fun c8 b8=>?_
 refine wf (XT (XT ?_))
 obtain⟨ax,m,H⟩:=Ao H
 refine Ar (fun a' w'=>∃ (aj:Array Value)(q:Ac),a' = ⟨aj,[]⟩∧Kn 51 [(f,0),(g,0),(k,0),(o,0)] [tP 13 3 0,tP 11 2 0,tP 8 1 0,tP 4 0 0,tS 1 aU lanes.length aV,tB 44 ax] aj∧Ai ⟨w,h,BF⟩ q [(f,0),(g,0),(k,0),(o,0)] [⟨Mh a y d b e,some 51⟩,⟨Kt,some 102⟩,⟨Po dA,some 98⟩,⟨Pn dM,some 82⟩] [] w'∧Ac.le al q) ?_ ?_
 ·
  refine Aa (Rk 0 3 ((tB 35 (!dA.2))::(tB 14 dM.2)::(tP 13 3 0)::(G9 aU lanes aV)) b8 l fun ay an=>?_)
  rcases Y2 ((!dA.2)) with s | s
  ·
   rw [s,XW] at m
   have b9:Kn _ _ ((tB 35 true)::(tB 14 dM.2)::(tP 13 3 0)::(G9 aU lanes aV)) _:=(an.setB 35 true (by rfl) s).kp
   refine Rk 3 9 ((tB 44 true)::(tP 13 3 0)::(G9 aU lanes aV)) b9 l fun c9 ca=>?_
   refine wf ?_
   obtain rfl:=XZ m
   exact XY _ ⟨_,rfl,ca.kp,l,Ac.le_refl _⟩
  rw [s,XV] at m
  have cb:Kn _ _ ((tB 35 false)::(tB 14 dM.2)::(tP 13 3 0)::(G9 aU lanes aV)) _:=(an.setB 35 false (by rfl) s).kp
  refine Rk 3 4 ((tB 39 (!dM.2))::(tP 13 3 0)::(G9 aU lanes aV)) cb l fun az ao=>?_
  rcases Y2 ((!dM.2)) with u | u
  ·
   rw [u,XW] at m
   have cc:Kn _ _ ((tB 39 true)::(tP 13 3 0)::(G9 aU lanes aV)) _:=(ao.setB 39 true (by rfl) u).kp
   refine Rk 7 5 ((tB 44 true)::(tP 13 3 0)::(G9 aU lanes aV)) cc l fun da be=>?_
   refine wf ?_
   obtain rfl:=XZ m
   exact XY _ ⟨_,rfl,be.kp,l,Ac.le_refl _⟩
  rw [u,XV] at m
  have bf:Kn _ _ ((tB 39 false)::(tP 13 3 0)::(G9 aU lanes aV)) _:=(ao.setB 39 false (by rfl) u).kp
  refine Rk 7 2 ((tS 41 aU lanes.length aV)::(tA 40 (Mh a y d b e))::(tB 39 false)::(tP 13 3 0)::(G9 aU lanes aV)) bf l fun cq am=>?_
  obtain⟨dI,iC,m⟩:=Ao m
  refine AD _ rfl (Al am (by kernel_rfl)) fun K hK=>?_
  refine wc [.agg (Mh a y d b e),.c (Yb aU lanes.length aV)] am l (KQ n l.has y ((Ab (Af i) (Ab (Af j) Ad)):rep al y _) lanes cU iC) fun db cp df a8 cd ap=>?_
  obtain rfl:=a8
  refine⟨.one (.c (.bool dI)),rfl,fun ch (bg:Kn _ [(f,0),(g,0),(k,0),(o,0)] ((tB 42 dI)::(tS 41 aU lanes.length aV)::(tA 40 (Mh a y d b e))::(tB 39 false)::(tP 13 3 0)::(G9 aU lanes aV)) _)=>hK _ _ ?_⟩
  refine Rk 10 2 ((tB 44 (!dI))::(tP 13 3 0)::(G9 aU lanes aV)) bg ap fun cr bh=>?_
  refine wf ?_
  obtain rfl:=XZ m
  exact XY _ ⟨_,rfl,bh.kp,ap,cd⟩
 rintro _ dg ⟨aj,q,rfl,af,aa,ah⟩
 replace i:=i.mono ah
 replace j:=j.mono ah
 replace cU:=cU.mono ah
 refine wC (ax) af (fun ad=>?_) (fun ad=>?_)
 ·
  rw [Ba ad] at H
  refine XT (Aa (Rk 0 1 [tA 45 Kt,tP 8 1 0] af aa fun ct bi=>?_))
  refine wl fun K hK=>?_
  refine DT 1 0 (.agg Kt) Kt bi aa fun dh bj aq=>hK _ _ ?_
  refine Rk 2 1 [tI 9 2,tP 8 1 0] bj aq fun cu bk=>?_
  refine wf (wp_ret ?_)
  obtain rfl:=XZ H
  exact rt (.tup [.agg Kt,.c (XR 2)]) bk aq ⟨_,_,rfl,⟨_,rfl,((Ab (Ab (Af At.nil) (Ab (Af At.nil) Ad)) (Ab (Af At.nil) (Ab (Ab Ad (Ab Ad (Ab Ad (Ab Ad (Ab Ad (Ab Ad (Ab Ad Ad))))))) (Ab Ag (Ab Ag (Ab Ag (Ab Ag (Ab Ag (Ab Ag (Ab Ag Ag)))))))))):rep q ((Cz.mk (Am.mk ([]:List Int) ([]:List Cn) 0) ([]:List Int) (A0.mk 0 0 0 0 0 0 0 0) (A1.mk false false false false false false false false)):Cz) _)⟩,rfl⟩
 rw [Bb ad] at H
 refine wp_skip (XT (Aa (Rk 0 5 [tA 50 (Uh a y d b e aU lanes aV dA dM),tP 8 1 0] af aa fun cv bl=>?_)))
 refine wl fun K hK=>?_
 refine DT 1 0 (.agg (Uh a y d b e aU lanes aV dA dM)) (Uh a y d b e aU lanes aV dA dM) bl aa fun di bm ar=>hK _ _ ?_
 refine Rk 6 1 [tI 9 0,tP 8 1 0] bm ar fun cw bn=>?_
 refine wf (wp_ret ?_)
 obtain rfl:=XZ H
 exact rt (.tup [.agg (Uh a y d b e aU lanes aV dA dM),.c (XR 0)]) bn ar ⟨_,_,rfl,⟨_,rfl,((Ab (Ab (Af i) (Ab (Af j) Ad)) (Ab (Af cU) (Ab (Ab Ad (Ab Ad (Ab Ad (Ab Ad (Ab Ad (Ab Ad (Ab Ad Ad))))))) (Ab Ag (Ab Ag (Ab Ag (Ab Ag (Ab Ag (Ab Ag (Ab Ag Ag)))))))))):rep q ((Cz.mk y lanes dA.1 dM.1):Cz) _)⟩,rfl⟩
abbrev Ro (aB)(slices:List (List Int))(cE cF aA):=([tI 11 aB,tI 10 ((slices.length:Nat):Int),tS 9 cE slices.length cF,tI 3 aA,tS 0 cE slices.length cF]:TM)
theorem Hq (n:Nat) {h:Ac} {w:World} (hh:CK h w) (slices:List (List Int)) {cE:Yd} {cF:Nat} (eU:At h cE cF slices) {r:List Int} (H:Ct n slices=some r) :
  Calls Tryz.prog 36 #[.slice cE slices.length cF] w (VI (fun h v rs=>∃ (a4:Yd)(a7:Nat)(bg:Ye),v=.slice a4 r.length a7∧rs=[⟨a4,r.length,a7,3,1,bg,0⟩]∧Ae h r bg) h w):=by
 refine enter 36 [.c (Yb cE slices.length cF)] Tryz.func36 rfl rfl rfl rfl fun t hk=>?_
 have hm:=Ai.begin h w hh
 unfold Ct at H
 refine XT (Aa (Rk 0 1 [tS 0 cE slices.length cF] hk hm fun c2 bz=>?_))
 refine wf (XT (Aa (Rk 0 1 [tI 3 0,tS 0 cE slices.length cF] bz hm fun c9 b1=>?_)))
 refine wf (XT (XT (Aa (Rk 0 3 [tI 11 0,tI 10 ((slices.length:Nat):Int),tS 9 cE slices.length cF,tI 3 0,tS 0 cE slices.length cF] b1 hm fun de b7=>?_))))
 refine wf ?_
 obtain⟨ae,ba,H⟩:=Ao H
 refine Ar (fun a' w'=>∃ (a1:Array Value)(g:Ac),a' = ⟨a1,[]⟩∧Kn 36 [] [tI 3 ae,tS 0 cE slices.length cF] a1∧Ai ⟨w,h,BF⟩ g [] [] [] w'∧Ac.le h g) ?_ ?_
 ·
  refine wp_block ?_
  refine Av (fun cq a' w'=>∃ (aB:Int)(aA:Int)(ay:Array Value)(ag:Ac),a' = ⟨ay,[]⟩∧Kn 36 [] (Ro aB slices cE cF aA) ay∧Ai ⟨w,h,BF⟩ ag [] [] [] w'∧Ac.le h ag∧Bd cq slices aB aA=some ae) n ?_ ?_
  ·
   exact XY 0 ⟨0,_,_,rfl,b7.kp,hm,Ac.le_refl _,ba⟩
  rintro av _ dl ⟨aB,aA,ay,ag,rfl,bx,ap,am,a⟩
  clear ba
  obtain _ | av:=av
  ·
   rw [Bd] at a; cases a
  rw [Bd] at a
  replace eU:=eU.mono am
  refine XT (Aa (Rk 0 1 ((tB 12 (decide (aB<((slices.length:Nat):Int))))::(Ro aB slices cE cF aA)) bx ap fun c8 ak=>?_))
  refine wf (XT (wC (decide (aB<((slices.length:Nat):Int))) ak (fun ah=>?_) (fun ah=>?_)))
  ·
   rw [ah,XW] at a
   refine wp_skip (XT (wp_block (XT (Aa ?_))))
   obtain⟨cC,fY,a⟩:=Ao a
   obtain⟨ce,ch,co⟩:=Aj fY
   obtain⟨a6,bf,cy,bi,cm,bl⟩:=eU.get (by decide) co
   obtain⟨a5,a8,rfl,c1⟩:=cm
   have u:=ap.addPlc (b:=a6) (o:=bf+Yc aB*1) (cs:=[Yb a5 cC.length a8]) (fun j c hj=>bl j _ (Ak hj)) rfl (by kernel_rfl) (by kernel_rfl)
   refine A9 0 (aB) rfl rfl (rfl) rfl (by decide) ak (by rfl) (by rfl) (by rfl) bi (by rfl) ce ch (by kernel_rfl) fun cv (b0:Kn _ [(a6,bf+Yc aB*1)] ((tP 13 0 0)::(tB 12 (decide (aB<((slices.length:Nat):Int))))::(Ro aB slices cE cF aA)) _)=>?_
   refine Rk 1 2 ((tS 5 a5 cC.length a8)::(Ro aB slices cE cF aA)) b0 u fun da b2=>?_
   refine wf (XT (Aa (Rk 0 5 [tI 3 (Ya (aA+((cC.length:Nat):Int))),tI 11 aB,tI 10 ((slices.length:Nat):Int),tS 9 cE slices.length cF,tS 0 cE slices.length cF] b2 u fun db b3=>?_)))
   refine wf (XT (Aa (Rk 0 2 [tB 20 (decide ((Ya (aA+((cC.length:Nat):Int)))<0)),tI 3 (Ya (aA+((cC.length:Nat):Int))),tI 11 aB,tI 10 ((slices.length:Nat):Int),tS 9 cE slices.length cF,tS 0 cE slices.length cF] b3 u fun dc bc=>?_)))
   refine wf (wC (decide ((Ya (aA+((cC.length:Nat):Int)))<0)) bc (fun ai=>?_) (fun ai=>?_))
   ·
    rw [ai,XW] at a
    cases a
   rw [ai,XV] at a
   refine wp_skip (Aa (Rk 0 2 [tI 11 (Ya (aB+1)),tI 3 (Ya (aA+((cC.length:Nat):Int))),tI 10 ((slices.length:Nat):Int),tS 9 cE slices.length cF,tS 0 cE slices.length cF] bc u fun dd b4=>?_))
   refine wf ?_
   exact XY av ⟨Y4 _,XY (Ya (aB+1)) ⟨Ya (aA+((cC.length:Nat):Int)),_,_,rfl,(b4.keep [11,10,9,3,0] (by rfl)).cut 0 (by kernel_rfl),u.cutPl 0 (by kernel_rfl),am,a⟩⟩
  rw [ah,XV] at a
  refine wp_exit ?_
  obtain rfl:=XZ a
  exact XY _ ⟨_,rfl,ak.kp,ap,am⟩
 rintro _ dm ⟨a1,g,rfl,b5,be,cd⟩
 replace eU:=eU.mono cd
 refine XT (Aa (Rk 0 1 [tI 23 ae,tS 0 cE slices.length cF] b5 be fun df b6=>?_))
 obtain⟨dA,gV,H⟩:=Ao H
 obtain⟨cf,ci⟩:=Tz gV
 refine wl fun K hK=>?_
 refine T0 3 Tryz.grows b6 be rfl rfl (by decide) (by rfl) (fun _ _=>by kernel_rfl) cf ci fun l p cw cx (b8:Kn _ [] [tS 24 l 0 p,tI 23 ae,tS 0 cE slices.length cF] _) (aq:Ai _ _ [] [] [⟨l,0,p,3,1,([]:Ye),0⟩] _)=>?_
 refine hK _ _ ?_
 refine Rk 2 1 [tS 6 l 0 p,tS 0 cE slices.length cF] b8 aq fun dg b9=>?_
 refine wf (XT (XT (Aa (Rk 0 3 [tI 27 0,tI 26 ((slices.length:Nat):Int),tS 25 cE slices.length cF,tS 6 l 0 p] b9 aq fun dh ca=>?_))))
 refine wf ?_
 obtain⟨i,a9,H⟩:=Ao H
 refine Ar (fun a' w'=>∃ (m:Yd)(q:Nat)(a3:Ye)(az:Array Value)(ab:Ac),a' = ⟨az,[]⟩∧Kn 36 [] [tS 6 m i.length q] az∧Ai ⟨w,h,BF⟩ ab [] [] [⟨m,i.length,q,3,1,a3,0⟩] w'∧Ac.le g ab∧Ae ab i a3) ?_ ?_
 ·
  refine wp_block ?_
  refine Av (fun cr a' w'=>∃ (aD:List Int)(aE:Int)(e:Yd)(f:Nat)(k:Ye)(a0:Array Value)(s:Ac),a' = ⟨a0,[]⟩∧Kn 36 [] [tI 27 aE,tI 26 ((slices.length:Nat):Int),tS 25 cE slices.length cF,tS 6 e aD.length f] a0∧Ai ⟨w,h,BF⟩ s [] [] [⟨e,aD.length,f,3,1,k,0⟩] w'∧Ac.le g s∧Ae s aD k∧Be cr slices aD aE=some i) n ?_ ?_
  ·
   exact XY ([]:List Int) ⟨0,l,p,([]:Ye),_,_,rfl,ca.kp,aq,Ac.le_refl _,Ae.nil,a9⟩
  rintro aw _ dn ⟨aD,aE,e,f,k,a0,s,rfl,cb,ar,an,bb,d⟩
  clear a9
  obtain _ | aw:=aw
  ·
   rw [Be] at d; cases d
  rw [Be] at d
  replace eU:=eU.mono an
  refine XT (Aa (Rk 0 1 [tB 28 (decide (aE<((slices.length:Nat):Int))),tI 27 aE,tI 26 ((slices.length:Nat):Int),tS 25 cE slices.length cF,tS 6 e aD.length f] cb ar fun di al=>?_))
  refine wf (XT (wC (decide (aE<((slices.length:Nat):Int))) al (fun aj=>?_) (fun aj=>?_)))
  ·
   rw [aj,XW] at d
   refine wp_skip (XT (wp_block (XT (Aa ?_))))
   obtain⟨gN,iQ,d⟩:=Ao d
   obtain⟨cg,cj,cp⟩:=Aj iQ
   obtain⟨af,ax,cz,bj,cn,bn⟩:=eU.get (by decide) cp
   obtain⟨x,z,rfl,ck⟩:=cn
   have ad:=ar.addPlc (b:=af) (o:=ax+Yc aE*1) (cs:=[Yb x gN.length z]) (fun j c hj=>bn j _ (Ak hj)) rfl (by kernel_rfl) (by kernel_rfl)
   refine A9 0 (aE) rfl rfl (rfl) rfl (by decide) al (by rfl) (by rfl) (by rfl) bj (by rfl) cg cj (by kernel_rfl) fun ct (bp:Kn _ [(af,ax+Yc aE*1)] [tP 29 0 0,tB 28 (decide (aE<((slices.length:Nat):Int))),tI 27 aE,tI 26 ((slices.length:Nat):Int),tS 25 cE slices.length cF,tS 6 e aD.length f] _)=>?_
   refine Rk 1 2 [tS 8 x gN.length z,tI 27 aE,tI 26 ((slices.length:Nat):Int),tS 25 cE slices.length cF,tS 6 e aD.length f] bp ad fun c3 bq=>?_
   refine wf (Aa (Rk 0 2 [tS 32 x gN.length z,tS 31 e aD.length f,tI 27 aE,tI 26 ((slices.length:Nat):Int),tS 25 cE slices.length cF] bq ad fun c4 br=>?_))
   obtain⟨a2,ac,cl,_⟩:=id ck
   obtain⟨fU,jD,d⟩:=Ao d
   obtain⟨au,cc⟩:=Bj jD
   refine wl fun K hK=>?_
   refine AS 0 8 gN.length _ (fU.length) _ a2 br ad rfl rfl (by decide) rfl (by rfl) (by kernel_rfl) (by rfl) (by rfl) (Ae.len ac) (cl.cell ad.has ac.one) ac.one (by rw [au]; simp <;> omega) (by rw [au]; exact cc) (by decide) fun y aa bh cu dj bo (bs:Kn _ [(af,ax+(aE:Int).toNat*1)] [tS 33 y fU.length aa,tS 32 x gN.length z,tS 31 e aD.length f,tI 27 aE,tI 26 ((slices.length:Nat):Int),tS 25 cE slices.length cF] _) ao=>?_
   have bk:Ae s fU (k++a2):=by rw [au]; exact Ae.append bb ac
   obtain rfl:bh=0:=Nat.le_zero.1 bo
   refine hK _ _ ?_
   refine Rk 3 1 [tS 6 y fU.length aa,tI 27 aE,tI 26 ((slices.length:Nat):Int),tS 25 cE slices.length cF] bs ao fun c5 bt=>?_
   refine wf (Aa (Rk 0 2 [tI 27 (Ya (aE+1)),tS 6 y fU.length aa,tI 26 ((slices.length:Nat):Int),tS 25 cE slices.length cF] bt ao fun c6 bu=>?_))
   refine wf ?_
   exact XY aw ⟨Y4 _,XY fU ⟨Ya (aE+1),y,aa,k++a2,_,_,rfl,(bu.keep [27,26,25,6] (by rfl)).cut 0 (by kernel_rfl),ao.cutPl 0 (by kernel_rfl),an,bk,d⟩⟩
  rw [aj,XV] at d
  refine wp_exit ?_
  obtain rfl:=XZ d
  exact XY e ⟨f,k,_,_,rfl,al.kp,ar,an,bb⟩
 rintro _ dk ⟨m,q,a3,az,ab,rfl,bv,bd,c0,bm⟩
 refine XT (Aa (Rk 0 2 [tS 2 m i.length q] bv bd fun c7 bw=>?_))
 refine wf (wp_ret ?_)
 obtain rfl:=XZ H
 exact Og (.one (.c (Yb m i.length q))) [0] bw bd (by kernel_rfl) (by kernel_rfl) (by kernel_rfl) ⟨_,_,_,rfl,rfl,bm⟩
end Go.Proofs.YtinminkmefljbaaGreat
