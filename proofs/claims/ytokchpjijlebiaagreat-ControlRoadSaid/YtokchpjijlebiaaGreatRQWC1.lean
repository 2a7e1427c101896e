/- Each call computes its plain function. -/
import Derived.Test.YtokchpjijlebiaaGreatProg
import Derived.Test.YtokchpjijlebiaaGreatRQWA1
import Derived.Test.YtokchpjijlebiaaGreatRQWB
import Derived.Test.YtokchpjijlebiaaGreatRQWB1
import Derived.Test.YtokchpjijlebiaaGreatRQWZ
set_option linter.all false
namespace Go.Proofs.YtokchpjijlebiaaGreat
open Go Go.RowKit
set_option maxRecDepth 100000
set_option maxHeartbeats 4000000
open Rep (rep)
open KRep (kv)
open VRep (rv)
abbrev Nx (e)(cP:An×Int)(j f k g l):=((Wq cP.1 e j f k g l):List SC)
abbrev QN (bP:(List Int)×Int)(a b):=([tI 2 bP.2,tS 1 a bP.1.length b]:TM)
abbrev TP (dE:Int×Int)(cP:An×Int):=([tI 6 dE.2,tI 5 dE.1,tI 4 cP.2,tP 3 0 0]:TM)
theorem LQ (n:Nat) {h:Ae} {w:World} (hh:Dk h w)  {r:Bool} (H:Gf n =some r) :
  Calls Tryz.prog 7 #[] w (Dq (fun h v=>v=.bool r) h w):=by
 refine enter 47 [] Tryz.func7 rfl rfl rfl rfl fun t hk=>?_
 have hm:=Ah.begin h w hh
 unfold Gf at H
 refine XT (Aa (Rk 0 1 [] hk hm fun ep c7=>?_))
 refine wf (XT (Aa ?_))
 obtain⟨x8,ex8,H⟩:=Av H
 refine wl fun K hK=>?_
 refine wc [] c7 hm (JK n hm.has  ex8) fun e8 ek fj cl eo b8=>?_
 obtain⟨_,rfl,⟨_,_,rfl,⟨u,x,rfl,bn⟩,⟨_,_,rfl,⟨_,_,rfl,rfl,rfl⟩,⟨_,_,rfl,⟨q,y,rfl,bp⟩,⟨_,_,rfl,⟨s,z,rfl,bq⟩,⟨_,_,rfl,rfl,⟨_,_,rfl,rfl,⟨_,_,rfl,rfl,rfl⟩⟩⟩⟩⟩⟩⟩⟩:=cl
 refine⟨.one (.agg (UB u x8 x q y s z)),rfl,fun d9 (cz:Kn 47 [] [tA 8 (UB u x8 x q y s z)] d9)=>hK _ _ ?_⟩
 obtain⟨x9,iL,H⟩:=Av H
 refine wl fun K hK=>?_
 refine wc [] cz b8 (RP n b8.has  iL) fun e7 bt fh ci bi b5=>?_
 replace bn:=bn.mono bi
 replace bp:=bp.mono bi
 replace bq:=bq.mono bi
 obtain⟨_,rfl,⟨_,_,rfl,⟨a5,bb,rfl,dx⟩,⟨_,_,rfl,⟨a6,bc,rfl,dy⟩,⟨a7,bd,rfl,dz⟩⟩⟩⟩:=ci
 refine⟨.one (.agg (Wq x9 a5 bb a6 bc a7 bd)),rfl,fun eb (dd:Kn 47 [] [tA 9 (Wq x9 a5 bb a6 bc a7 bd),tA 8 (UB u x8 x q y s z)] eb)=>hK _ _ ?_⟩
 obtain⟨bP,dS,H⟩:=Av H
 refine wl fun K hK=>?_
 refine wc [.agg (UB u x8 x q y s z),.agg (Wq x9 a5 bb a6 bc a7 bd)] dd b5 (Ib n b5.has x8 ((Ab (Ad bn) (Ab (Ab Ac Ac) (Ab (Ad bp) (Ab (Ad bq) (Ab Ac (Ab Ac (Ab Ac Ac))))))):rep bt x8 _) x9 ((Ab (Ad dx) (Ab (Ad dy) (Ad dz))):rep bt x9 _) dS) fun e9 ej fi cj en bl=>?_
 obtain⟨_,_,rfl,⟨a,b,rfl,a1⟩,rfl⟩:=cj
 refine⟨.tup [.c (Wu a bP.1.length b),.c (Ws bP.2)],rfl,fun ec (de:Kn 47 [] [(10,.tup [.c (Wu a bP.1.length b),.c (Ws bP.2)]),tA 9 (Wq x9 a5 bb a6 bc a7 bd),tA 8 (UB u x8 x q y s z)] ec)=>hK _ _ ?_⟩
 refine Rk 3 5 (QN bP a b) de bl fun e0 df=>?_
 refine wf (XT (Aa ?_))
 obtain⟨cN,fV,H⟩:=Av H
 refine wl fun K hK=>?_
 refine wc [] df bl (JK n bl.has  fV) fun fa co fk ck dm b6=>?_
 obtain⟨_,rfl,⟨_,_,rfl,⟨ag,am,rfl,d0⟩,⟨_,_,rfl,⟨_,_,rfl,rfl,rfl⟩,⟨_,_,rfl,⟨ah,an,rfl,d1⟩,⟨_,_,rfl,⟨ai,ao,rfl,d2⟩,⟨_,_,rfl,rfl,⟨_,_,rfl,rfl,⟨_,_,rfl,rfl,rfl⟩⟩⟩⟩⟩⟩⟩⟩:=ck
 refine⟨.one (.agg (UB ag cN am ah an ai ao)),rfl,fun ed (dg:Kn 47 [] ((tA 14 (UB ag cN am ah an ai ao))::(QN bP a b)) ed)=>hK _ _ ?_⟩
 obtain⟨cP,jE,H⟩:=Av H
 refine wl fun K hK=>?_
 refine wc [.agg (UB ag cN am ah an ai ao)] dg b6 (Ji n b6.has cN ((Ab (Ad d0) (Ab (Ab Ac Ac) (Ab (Ad d1) (Ab (Ad d2) (Ab Ac (Ab Ac (Ab Ac Ac))))))):rep co cN _) jE) fun fb el fl cm dp b7=>?_
 obtain⟨_,_,rfl,⟨_,rfl,⟨_,_,rfl,⟨e,j,rfl,aa⟩,⟨_,_,rfl,⟨f,k,rfl,ab⟩,⟨g,l,rfl,ac⟩⟩⟩⟩,rfl⟩:=cm
 refine⟨.tup [.agg (Nx e cP j f k g l),.c (Ws cP.2)],rfl,fun ee (dh:Kn 47 [] ((15,.tup [.agg (Nx e cP j f k g l),.c (Ws cP.2)])::(tA 14 (UB ag cN am ah an ai ao))::(QN bP a b)) ee)=>hK _ _ ?_⟩
 refine Rk 2 3 ((tI 17 cP.2)::(tA 16 (Nx e cP j f k g l))::(QN bP a b)) dh b7 fun e1 di=>?_
 refine wl fun K hK=>?_
 refine wa [Wu none 0 0,Wu none 0 0,Wu none 0 0] di b7 fun d ef fm (dj:Kn 47 [(d,0)] ((tP 3 0 0)::(tI 17 cP.2)::(tA 16 (Nx e cP j f k g l))::(QN bP a b)) ef) dq=>hK _ _ ?_
 refine wl fun K hK=>?_
 refine EZ 0 0 (.agg (Nx e cP j f k g l)) (Nx e cP j f k g l) dj dq fun fn dk bm=>hK _ _ ?_
 refine Rk 7 1 ((tI 4 cP.2)::(tP 3 0 0)::(QN bP a b)) dk bm fun e2 dl=>?_
 refine wf (XT (Aa ?_))
 obtain⟨fR,kC,H⟩:=Av H
 refine wl fun K hK=>?_
 refine wc [] dl bm (JK n bm.has  kC) fun fc cp fo cn be b4=>?_
 obtain⟨_,rfl,⟨_,_,rfl,⟨ad,aj,rfl,dr⟩,⟨_,_,rfl,⟨_,_,rfl,rfl,rfl⟩,⟨_,_,rfl,⟨ae,ak,rfl,ds⟩,⟨_,_,rfl,⟨af,al,rfl,dt⟩,⟨_,_,rfl,rfl,⟨_,_,rfl,rfl,⟨_,_,rfl,rfl,rfl⟩⟩⟩⟩⟩⟩⟩⟩:=cn
 refine⟨.one (.agg (UB ad fR aj ae ak af al)),rfl,fun d4 (cq:Kn 47 [(d,0)] ((tA 19 (UB ad fR aj ae ak af al))::(tI 4 cP.2)::(tP 3 0 0)::(QN bP a b)) d4)=>hK _ _ ?_⟩
 obtain⟨dE,kH,H⟩:=Av H
 refine wl fun K hK=>?_
 refine wc [.agg (UB ad fR aj ae ak af al)] cq b4 (M1 n b4.has fR ((Ab (Ad dr) (Ab (Ab Ac Ac) (Ab (Ad ds) (Ab (Ad dt) (Ab Ac (Ab Ac (Ab Ac Ac))))))):rep cp fR _) kH) fun e3 aq fd ce bf p=>?_
 replace a1:=a1.mono (XU (XU (XU dm dp) be) bf)
 replace aa:=aa.mono (XU be bf)
 replace ab:=ab.mono (XU be bf)
 replace ac:=ac.mono (XU be bf)
 obtain⟨_,_,rfl,rfl,rfl⟩:=ce
 refine⟨.tup [.c (Ws dE.1),.c (Ws dE.2)],rfl,fun d5 (cr:Kn 47 [(d,0)] ((20,.tup [.c (Ws dE.1),.c (Ws dE.2)])::(tA 19 (UB ad fR aj ae ak af al))::(tI 4 cP.2)::(tP 3 0 0)::(QN bP a b)) d5)=>hK _ _ ?_⟩
 refine Rk 2 5 ((tI 6 dE.2)::(tI 5 dE.1)::(tI 4 cP.2)::(tP 3 0 0)::(QN bP a b)) cr p fun er cs=>?_
 refine wf (XT (Am (by kernel_rfl) ?_))
 replace p:=p.drew
 refine Ao [] [(d,0)] [⟨Nx e cP j f k g l,some 50⟩] ?_
 refine Dr [0,1,2] [2,1,0] [tB 25 (bP.2 == 0),tI 6 dE.2,tI 5 dE.1,tI 4 cP.2,tP 3 0 0,tS 1 a bP.1.length b] cs p fun b9 bu=>?_
 rcases Xb ((bP.2 == 0)) with ar | ar
 ·
  rw [ar,XW] at H
  have ct:Kn 47 [(d,0)] [tB 25 true,tI 6 dE.2,tI 5 dE.1,tI 4 cP.2,tP 3 0 0,tS 1 a bP.1.length b] b9:=(bu.setB 25 true (by rfl) ar).kp
  refine Dr [3] (dn 3) ((tS 26 a bP.1.length b)::(tB 25 true)::(TP dE cP)) ct p fun es bv=>?_
  refine EJ 4 rfl (by kernel_rfl) (by decide) (Aj bv (by kernel_rfl)) fun K hK=>?_
  refine wS 3 1 [Ws 40,Ws 30,Ws 30,Ws 37] bv p fun ap d6 eg (bw:Kn 47 [(d,0)] ((tS 27 ap 4 4)::(tS 26 a bP.1.length b)::(tB 25 true)::(TP dE cP)) d6) bj=>?_
  have ay:Ag aq ([40,30,30,37]:List Int) ([.int .i64 40,.int .i64 30,.int .i64 30,.int .i64 37]:Wx):=⟨_,_,rfl,(Ac:rep aq (40:Int) _),⟨_,_,rfl,(Ac:rep aq (30:Int) _),⟨_,_,rfl,(Ac:rep aq (30:Int) _),⟨_,_,rfl,(Ac:rep aq (37:Int) _),rfl⟩⟩⟩⟩
  refine hK _ _ bj.plOk ?_
  obtain⟨br,az,d3,bg⟩:=bj.settle (i:=0) rfl
  replace a1:=a1.mono az
  replace ay:=ay.mono az
  replace bg:Ah ⟨w,h,A6⟩ br [(d,0)] [⟨Nx e cP j f k g l,some 50⟩] [⟨ap,4,4,3,1,([.int .i64 40,.int .i64 30,.int .i64 30,.int .i64 37]:Wx),(([.int .i64 40,.int .i64 30,.int .i64 30,.int .i64 37]:Wx):Wx).length⟩] eg:=bg
  have bo:A4 br ap 4 ([40,30,30,37]:List Int):=⟨_,ay,d3,bj.rowCap (i:=0) rfl⟩
  obtain⟨fA,jD,H⟩:=Av H
  refine EJ 5 rfl (by kernel_rfl) (by decide) (Aj bw (by kernel_rfl)) fun K hK=>?_
  refine wc [.c (Wu a bP.1.length b),.c (Wu ap 4 4)] bw bg (JI n bg.has bP.1 a1 ([40,30,30,37]:List Int) bo jD) fun e4 eh fe cf a0 m=>?_
  replace aa:=aa.mono (XU az a0)
  replace ab:=ab.mono (XU az a0)
  replace ac:=ac.mono (XU az a0)
  replace bo:=bo.mono a0
  replace ay:=ay.mono a0
  obtain rfl:=cf
  refine⟨.one (.c (.bool fA)),rfl,fun d7 (cu:Kn 47 [(d,0)] ((tB 28 fA)::(tS 27 ap 4 4)::(tS 26 a bP.1.length b)::(tB 25 true)::(TP dE cP)) d7)=>hK _ _ m.plOk ?_⟩
  refine Dr [6,7] (dn 7) ((tB 30 fA)::(TP dE cP)) cu m fun ca bx=>?_
  rcases Xb (fA) with au | au
  ·
   rw [au,XW] at H
   have cv:Kn 47 [(d,0)] ((tB 30 true)::(TP dE cP)) ca:=(bx.setB 30 true (by rfl) au).kp
   refine Dr [8,9,10,11] (dn 11) [tB 34 (cP.2 == 0),tI 6 dE.2,tI 5 dE.1,tP 3 0 0] cv m fun cb bz=>?_
   rcases Xb ((cP.2 == 0)) with av | av
   ·
    rw [av,XW] at H
    have cw:Kn 47 [(d,0)] [tB 34 true,tI 6 dE.2,tI 5 dE.1,tP 3 0 0] cb:=(bz.setB 34 true (by rfl) av).kp
    refine Dr [12] (dn 12) [tA 35 (Nx e cP j f k g l),tB 34 true,tI 6 dE.2,tI 5 dE.1] cw m fun et b0=>?_
    obtain⟨bZ,iV,H⟩:=Av H
    refine EJ 13 rfl (by kernel_rfl) (by decide) (Aj b0 (by kernel_rfl)) fun K hK=>?_
    refine wc [] b0 m (RQ n m.has  iV) fun e5 bs ff cg bh bk=>?_
    replace aa:=aa.mono bh
    replace ab:=ab.mono bh
    replace ac:=ac.mono bh
    obtain⟨_,rfl,⟨_,_,rfl,⟨a2,a8,rfl,du⟩,⟨_,_,rfl,⟨a3,a9,rfl,dv⟩,⟨a4,ba,rfl,dw⟩⟩⟩⟩:=cg
    refine⟨.one (.agg (Wq bZ a2 a8 a3 a9 a4 ba)),rfl,fun d8 (b1:Kn 47 [(d,0)] [tA 36 (Wq bZ a2 a8 a3 a9 a4 ba),tA 35 (Nx e cP j f k g l),tB 34 true,tI 6 dE.2,tI 5 dE.1] d8)=>hK _ _ bk.plOk ?_⟩
    obtain⟨gO,ex37,H⟩:=Av H
    refine EJ 14 rfl (by kernel_rfl) (by decide) (Aj b1 (by kernel_rfl)) fun K hK=>?_
    refine wc [.agg (Nx e cP j f k g l),.agg (Wq bZ a2 a8 a3 a9 a4 ba)] b1 bk (RO n bk.has cP.1 ((Ab (Ad aa) (Ab (Ad ab) (Ad ac))):rep bs cP.1 _) bZ ((Ab (Ad du) (Ab (Ad dv) (Ad dw))):rep bs bZ _) ex37) fun e6 ei fg ch em o=>?_
    obtain rfl:=ch
    refine⟨.one (.c (.bool gO)),rfl,fun ea (cx:Kn 47 [(d,0)] [tB 37 gO,tA 36 (Wq bZ a2 a8 a3 a9 a4 ba),tA 35 (Nx e cP j f k g l),tB 34 true,tI 6 dE.2,tI 5 dE.1] ea)=>hK _ _ o.plOk ?_⟩
    refine Dr [15,16] (dn 16) [tB 39 gO,tI 6 dE.2,tI 5 dE.1] cx o fun cc b2=>?_
    rcases Xb (gO) with aw | aw
    ·
     rw [aw,XW] at H
     have cy:Kn 47 [(d,0)] [tB 39 true,tI 6 dE.2,tI 5 dE.1] cc:=(b2.setB 39 true (by rfl) aw).kp
     refine Dr [17,18,19,20] (dn 20) [tB 43 (dE.2 == 0),tI 5 dE.1] cy o fun cd b3=>?_
     rcases Xb ((dE.2 == 0)) with ax | ax
     ·
      rw [ax,XW] at H
      have c0:Kn 47 [(d,0)] [tB 43 true,tI 5 dE.1] cd:=(b3.setB 43 true (by rfl) ax).kp
      refine Dr [21,22,23,24] (dn 24) [tB 0 (dE.1 == 35)] c0 o fun eu c1=>?_
      refine A2 (by kernel_rfl) (wp_ret ?_)
      obtain rfl:=XZ H
      exact rt (.one (.c (.bool (dE.1 == 35)))) c1 o rfl
     ·
      rw [ax,XV] at H
      have c2:Kn 47 [(d,0)] [tB 43 false,tI 5 dE.1] cd:=(b3.setB 43 false (by rfl) ax).kp
      refine Dr [21,22,23,24] (dn 24) [tB 0 false] c2 o fun ev c3=>?_
      refine A2 (by kernel_rfl) (wp_ret ?_)
      obtain rfl:=XZ H
      exact rt (.one (.c (.bool false))) c3 o rfl
    ·
     rw [aw,XV] at H
     have c4:Kn 47 [(d,0)] [tB 39 false,tI 6 dE.2,tI 5 dE.1] cc:=(b2.setB 39 false (by rfl) aw).kp
     refine Dr [17,18,19,20,21,22,23,24] (dn 24) [tB 0 false] c4 o fun ew c5=>?_
     refine A2 (by kernel_rfl) (wp_ret ?_)
     obtain rfl:=XZ H
     exact rt (.one (.c (.bool false))) c5 o rfl
   ·
    rw [av,XV] at H
    have c6:Kn 47 [(d,0)] [tB 34 false,tI 6 dE.2,tI 5 dE.1,tP 3 0 0] cb:=(bz.setB 34 false (by rfl) av).kp
    refine Dr [12,13,14,15,16,17,18,19,20,21,22,23,24] (dn 24) [tB 0 false] c6 m fun ex c8=>?_
    refine A2 (by kernel_rfl) (wp_ret ?_)
    obtain rfl:=XZ H
    exact rt (.one (.c (.bool false))) c8 m rfl
  ·
   rw [au,XV] at H
   have c9:Kn 47 [(d,0)] ((tB 30 false)::(TP dE cP)) ca:=(bx.setB 30 false (by rfl) au).kp
   refine Dr [8,9,10,11,12,13,14,15,16,17,18,19,20,21,22,23,24] (dn 24) [tB 0 false] c9 m fun ey da=>?_
   refine A2 (by kernel_rfl) (wp_ret ?_)
   obtain rfl:=XZ H
   exact rt (.one (.c (.bool false))) da m rfl
 ·
  rw [ar,XV] at H
  have db:Kn 47 [(d,0)] [tB 25 false,tI 6 dE.2,tI 5 dE.1,tI 4 cP.2,tP 3 0 0,tS 1 a bP.1.length b] b9:=(bu.setB 25 false (by rfl) ar).kp
  refine Dr [3,4,5,6,7,8,9,10,11,12,13,14,15,16,17,18,19,20,21,22,23,24] (dn 24) [tB 0 false] db p fun ez dc=>?_
  refine A2 (by kernel_rfl) (wp_ret ?_)
  obtain rfl:=XZ H
  exact rt (.one (.c (.bool false))) dc p rfl
end Go.Proofs.YtokchpjijlebiaaGreat
