/- Each call computes its plain function. -/
import Derived.Test.YtokchpjijlebiaaProg
import Derived.Test.YtokchpjijlebiaaNQP0
import Derived.Test.YtokchpjijlebiaaNQWA
import Derived.Test.YtokchpjijlebiaaNQWA1
import Derived.Test.YtokchpjijlebiaaNQWB
import Derived.Test.YtokchpjijlebiaaNQWB1
import Derived.Test.YtokchpjijlebiaaNQWZ
set_option linter.all false
namespace Go.Proofs.Ytokchpjijlebiaa
open Go Go.RowKit
open Rep (rep)
open KRep (kv)
open VRep (rv)
abbrev GC (e:Option Addr) (x15:A0×Int) (j:Nat) (f:Option Addr) (k:Nat) (g:Option Addr) (l:Nat):List SC:=[.slice e x15.1.holds.length j,.slice f x15.1.turns.length k,.slice g x15.1.spares.length l]
abbrev MM (u:Option Addr) (x8:Ag) (x:Nat) (q:Option Addr) (y:Nat) (s:Option Addr) (z:Nat):List SC:=[.slice u x8.legs.length x,.int .i64 x8.turn.lo,.int .i64 x8.turn.hi,.slice q x8.buses.length y,.slice s x8.spares.length z,.int .i64 x8.unit,.int .i64 x8.gap,.int .i64 x8.fr,.int .i64 x8.to_]
abbrev NK (ag:Option Addr) (x14:Ag) (am:Nat) (ah:Option Addr) (an:Nat) (ai:Option Addr) (ao:Nat):List SC:=[.slice ag x14.legs.length am,.int .i64 x14.turn.lo,.int .i64 x14.turn.hi,.slice ah x14.buses.length an,.slice ai x14.spares.length ao,.int .i64 x14.unit,.int .i64 x14.gap,.int .i64 x14.fr,.int .i64 x14.to_]
abbrev NL (ad:Option Addr) (x19:Ag) (aj:Nat) (ae:Option Addr) (ak:Nat) (af:Option Addr) (al:Nat):List SC:=[.slice ad x19.legs.length aj,.int .i64 x19.turn.lo,.int .i64 x19.turn.hi,.slice ae x19.buses.length ak,.slice af x19.spares.length al,.int .i64 x19.unit,.int .i64 x19.gap,.int .i64 x19.fr,.int .i64 x19.to_]
abbrev IJ (x10:(List Int)×Int) (a:Option Addr) (b:Nat):TM:=[tI 2 x10.2,tS 1 a x10.1.length b]
abbrev Lw (x20:Int×Int) (x15:A0×Int):TM:=[tI 6 x20.2,tI 5 x20.1,tI 4 x15.2,tP 3 0 0]
set_option maxRecDepth 100000 in
set_option maxHeartbeats 4000000 in
theorem Mf (n:Nat) {h:Ad} {w:World} (hh:Dv h w)  {r:Bool} (H:H5 n =some r) :
  Calls Try.prog 13 #[] w (D6 (fun h v=>v=.bool r) h w):=by
 refine enter 47 [] Try.func13 rfl rfl rfl rfl fun t hk=>?_
 have hm:=Ah.begin h w hh
 unfold H5 at H
 refine QT (Ab (Rk 0 1 [] hk hm fun ep c7=>?_))
 refine wf (QT (Ab ?_))
 obtain⟨x8,ex8,H⟩:=A3 H
 refine wl fun K hK=>?_
 refine wc [] c7 hm (Bi n hm.has  ex8) fun e8 ek fj cl eo b8=>?_
 obtain⟨_,rfl,⟨_,_,rfl,⟨u,x,rfl,bn⟩,⟨_,_,rfl,⟨_,_,rfl,rfl,rfl⟩,⟨_,_,rfl,⟨q,y,rfl,bp⟩,⟨_,_,rfl,⟨s,z,rfl,bq⟩,⟨_,_,rfl,rfl,⟨_,_,rfl,rfl,⟨_,_,rfl,rfl,rfl⟩⟩⟩⟩⟩⟩⟩⟩:=cl
 refine⟨.one (.agg (MM u x8 x q y s z)),rfl,fun d9 (cz:Kn 47 [] [tA 8 (MM u x8 x q y s z)] d9)=>hK _ _ ?_⟩
 obtain⟨x9,ex9,H⟩:=A3 H
 refine wl fun K hK=>?_
 refine wc [] cz b8 (Eo n b8.has  ex9) fun e7 bt fh ci bi b5=>?_
 replace bn:=bn.mono bi
 replace bp:=bp.mono bi
 replace bq:=bq.mono bi
 obtain⟨_,rfl,⟨_,_,rfl,⟨a5,bb,rfl,dx⟩,⟨_,_,rfl,⟨a6,bc,rfl,dy⟩,⟨a7,bd,rfl,dz⟩⟩⟩⟩:=ci
 refine⟨.one (.agg [.slice a5 x9.holds.length bb,.slice a6 x9.turns.length bc,.slice a7 x9.spares.length bd]),rfl,fun eb (dd:Kn 47 [] [tA 9 [.slice a5 x9.holds.length bb,.slice a6 x9.turns.length bc,.slice a7 x9.spares.length bd],tA 8 (MM u x8 x q y s z)] eb)=>hK _ _ ?_⟩
 obtain⟨x10,ex10,H⟩:=A3 H
 refine wl fun K hK=>?_
 refine wc [.agg (MM u x8 x q y s z),.agg [.slice a5 x9.holds.length bb,.slice a6 x9.turns.length bc,.slice a7 x9.spares.length bd]] dd b5 (C0 n b5.has x8 ((Aa (Ae bn) (Aa (Aa Ac Ac) (Aa (Ae bp) (Aa (Ae bq) (Aa Ac (Aa Ac (Aa Ac Ac))))))):rep bt x8 _) x9 ((Aa (Ae dx) (Aa (Ae dy) (Ae dz))):rep bt x9 _) ex10) fun e9 ej fi cj en bl=>?_
 obtain⟨_,_,rfl,⟨a,b,rfl,a1⟩,rfl⟩:=cj
 refine⟨.tup [.c (.slice a x10.1.length b),.c (.int .i64 x10.2)],rfl,fun ec (de:Kn 47 [] [(10,.tup [.c (.slice a x10.1.length b),.c (.int .i64 x10.2)]),tA 9 [.slice a5 x9.holds.length bb,.slice a6 x9.turns.length bc,.slice a7 x9.spares.length bd],tA 8 (MM u x8 x q y s z)] ec)=>hK _ _ ?_⟩
 refine Rk 3 5 (IJ x10 a b) de bl fun e0 df=>?_
 refine wf (QT (Ab ?_))
 obtain⟨x14,ex14,H⟩:=A3 H
 refine wl fun K hK=>?_
 refine wc [] df bl (Bi n bl.has  ex14) fun fa co fk ck dm b6=>?_
 obtain⟨_,rfl,⟨_,_,rfl,⟨ag,am,rfl,d0⟩,⟨_,_,rfl,⟨_,_,rfl,rfl,rfl⟩,⟨_,_,rfl,⟨ah,an,rfl,d1⟩,⟨_,_,rfl,⟨ai,ao,rfl,d2⟩,⟨_,_,rfl,rfl,⟨_,_,rfl,rfl,⟨_,_,rfl,rfl,rfl⟩⟩⟩⟩⟩⟩⟩⟩:=ck
 refine⟨.one (.agg (NK ag x14 am ah an ai ao)),rfl,fun ed (dg:Kn 47 [] ((tA 14 (NK ag x14 am ah an ai ao))::(IJ x10 a b)) ed)=>hK _ _ ?_⟩
 obtain⟨x15,ex15,H⟩:=A3 H
 refine wl fun K hK=>?_
 refine wc [.agg (NK ag x14 am ah an ai ao)] dg b6 (GO n b6.has x14 ((Aa (Ae d0) (Aa (Aa Ac Ac) (Aa (Ae d1) (Aa (Ae d2) (Aa Ac (Aa Ac (Aa Ac Ac))))))):rep co x14 _) ex15) fun fb el fl cm dp b7=>?_
 obtain⟨_,_,rfl,⟨_,rfl,⟨_,_,rfl,⟨e,j,rfl,aa⟩,⟨_,_,rfl,⟨f,k,rfl,ab⟩,⟨g,l,rfl,ac⟩⟩⟩⟩,rfl⟩:=cm
 refine⟨.tup [.agg (GC e x15 j f k g l),.c (.int .i64 x15.2)],rfl,fun ee (dh:Kn 47 [] ((15,.tup [.agg (GC e x15 j f k g l),.c (.int .i64 x15.2)])::(tA 14 (NK ag x14 am ah an ai ao))::(IJ x10 a b)) ee)=>hK _ _ ?_⟩
 refine Rk 2 3 ((tI 17 x15.2)::(tA 16 (GC e x15 j f k g l))::(IJ x10 a b)) dh b7 fun e1 di=>?_
 refine wl fun K hK=>?_
 refine wa [.slice none 0 0,.slice none 0 0,.slice none 0 0] di b7 fun d ef fm (dj:Kn 47 [(d,0)] ((tP 3 0 0)::(tI 17 x15.2)::(tA 16 (GC e x15 j f k g l))::(IJ x10 a b)) ef) dq=>hK _ _ ?_
 refine wl fun K hK=>?_
 refine Ea 0 0 (.agg (GC e x15 j f k g l)) (GC e x15 j f k g l) dj dq fun fn dk bm=>hK _ _ ?_
 refine Rk 7 1 ((tI 4 x15.2)::(tP 3 0 0)::(IJ x10 a b)) dk bm fun e2 dl=>?_
 refine wf (QT (Ab ?_))
 obtain⟨x19,ex19,H⟩:=A3 H
 refine wl fun K hK=>?_
 refine wc [] dl bm (Bi n bm.has  ex19) fun fc cp fo cn be b4=>?_
 obtain⟨_,rfl,⟨_,_,rfl,⟨ad,aj,rfl,dr⟩,⟨_,_,rfl,⟨_,_,rfl,rfl,rfl⟩,⟨_,_,rfl,⟨ae,ak,rfl,ds⟩,⟨_,_,rfl,⟨af,al,rfl,dt⟩,⟨_,_,rfl,rfl,⟨_,_,rfl,rfl,⟨_,_,rfl,rfl,rfl⟩⟩⟩⟩⟩⟩⟩⟩:=cn
 refine⟨.one (.agg (NL ad x19 aj ae ak af al)),rfl,fun d4 (cq:Kn 47 [(d,0)] ((tA 19 (NL ad x19 aj ae ak af al))::(tI 4 x15.2)::(tP 3 0 0)::(IJ x10 a b)) d4)=>hK _ _ ?_⟩
 obtain⟨x20,ex20,H⟩:=A3 H
 refine wl fun K hK=>?_
 refine wc [.agg (NL ad x19 aj ae ak af al)] cq b4 (Ju n b4.has x19 ((Aa (Ae dr) (Aa (Aa Ac Ac) (Aa (Ae ds) (Aa (Ae dt) (Aa Ac (Aa Ac (Aa Ac Ac))))))):rep cp x19 _) ex20) fun e3 aq fd ce bf p=>?_
 replace a1:=a1.mono (QU (QU (QU dm dp) be) bf)
 replace aa:=aa.mono (QU be bf)
 replace ab:=ab.mono (QU be bf)
 replace ac:=ac.mono (QU be bf)
 obtain⟨_,_,rfl,rfl,rfl⟩:=ce
 refine⟨.tup [.c (.int .i64 x20.1),.c (.int .i64 x20.2)],rfl,fun d5 (cr:Kn 47 [(d,0)] ((20,.tup [.c (.int .i64 x20.1),.c (.int .i64 x20.2)])::(tA 19 (NL ad x19 aj ae ak af al))::(tI 4 x15.2)::(tP 3 0 0)::(IJ x10 a b)) d5)=>hK _ _ ?_⟩
 refine Rk 2 5 ((tI 6 x20.2)::(tI 5 x20.1)::(tI 4 x15.2)::(tP 3 0 0)::(IJ x10 a b)) cr p fun er cs=>?_
 refine wf (QT (Ao (by kernel_rfl) ?_))
 replace p:=p.drew
 refine At [] [(d,0)] [⟨GC e x15 j f k g l,some 34⟩] ?_
 refine Dr [0,1,2] [2,1,0] [tB 25 (x10.2 == 0),tI 6 x20.2,tI 5 x20.1,tI 4 x15.2,tP 3 0 0,tS 1 a x10.1.length b] cs p fun b9 bu=>?_
 rcases Bool.eq_false_or_eq_true ((x10.2 == 0)) with ar | ar
 ·
  rw [ar,QW] at H
  have ct:Kn 47 [(d,0)] [tB 25 true,tI 6 x20.2,tI 5 x20.1,tI 4 x15.2,tP 3 0 0,tS 1 a x10.1.length b] b9:=(bu.setB 25 true (by rfl) ar).kp
  refine Dr [3] (dn 3) ((tS 26 a x10.1.length b)::(tB 25 true)::(Lw x20 x15)) ct p fun es bv=>?_
  refine Gp 4 rfl (by kernel_rfl) (by decide) (Ai bv (by kernel_rfl)) fun K hK=>?_
  refine wS 3 1 [.int .i64 40,.int .i64 30,.int .i64 30,.int .i64 37] bv p fun ap d6 eg (bw:Kn 47 [(d,0)] ((tS 27 ap 4 4)::(tS 26 a x10.1.length b)::(tB 25 true)::(Lw x20 x15)) d6) bj=>?_
  have ay:Af aq ([40,30,30,37]:List Int) ([.int .i64 40,.int .i64 30,.int .i64 30,.int .i64 37]:List Value):=⟨_,_,rfl,(Ac:rep aq (40:Int) _),⟨_,_,rfl,(Ac:rep aq (30:Int) _),⟨_,_,rfl,(Ac:rep aq (30:Int) _),⟨_,_,rfl,(Ac:rep aq (37:Int) _),rfl⟩⟩⟩⟩
  refine hK _ _ bj.plOk ?_
  obtain⟨br,az,d3,bg⟩:=bj.settle (i:=0) rfl
  replace a1:=a1.mono az
  replace ay:=ay.mono az
  replace bg:Ah ⟨w,h,Az⟩ br [(d,0)] [⟨GC e x15 j f k g l,some 34⟩] [⟨ap,4,4,3,1,([.int .i64 40,.int .i64 30,.int .i64 30,.int .i64 37]:List Value),(([.int .i64 40,.int .i64 30,.int .i64 30,.int .i64 37]:List Value):List Value).length⟩] eg:=bg
  have bo:Ar br ap 4 ([40,30,30,37]:List Int):=⟨_,ay,d3,bj.rowCap (i:=0) rfl⟩
  obtain⟨x28,ex28,H⟩:=A3 H
  refine Gp 5 rfl (by kernel_rfl) (by decide) (Ai bw (by kernel_rfl)) fun K hK=>?_
  refine wc [.c (.slice a x10.1.length b),.c (.slice ap 4 4)] bw bg (Cy n bg.has x10.1 a1 ([40,30,30,37]:List Int) bo ex28) fun e4 eh fe cf a0 m=>?_
  replace aa:=aa.mono (QU az a0)
  replace ab:=ab.mono (QU az a0)
  replace ac:=ac.mono (QU az a0)
  replace bo:=bo.mono a0
  replace ay:=ay.mono a0
  obtain rfl:=cf
  refine⟨.one (.c (.bool x28)),rfl,fun d7 (cu:Kn 47 [(d,0)] ((tB 28 x28)::(tS 27 ap 4 4)::(tS 26 a x10.1.length b)::(tB 25 true)::(Lw x20 x15)) d7)=>hK _ _ m.plOk ?_⟩
  refine Dr [6,7] (dn 7) ((tB 30 x28)::(Lw x20 x15)) cu m fun ca bx=>?_
  rcases Bool.eq_false_or_eq_true (x28) with au | au
  ·
   rw [au,QW] at H
   have cv:Kn 47 [(d,0)] ((tB 30 true)::(Lw x20 x15)) ca:=(bx.setB 30 true (by rfl) au).kp
   refine Dr [8,9,10,11] (dn 11) [tB 34 (x15.2 == 0),tI 6 x20.2,tI 5 x20.1,tP 3 0 0] cv m fun cb bz=>?_
   rcases Bool.eq_false_or_eq_true ((x15.2 == 0)) with av | av
   ·
    rw [av,QW] at H
    have cw:Kn 47 [(d,0)] [tB 34 true,tI 6 x20.2,tI 5 x20.1,tP 3 0 0] cb:=(bz.setB 34 true (by rfl) av).kp
    refine Dr [12] (dn 12) [tA 35 (GC e x15 j f k g l),tB 34 true,tI 6 x20.2,tI 5 x20.1] cw m fun et b0=>?_
    obtain⟨x36,ex36,H⟩:=A3 H
    refine Gp 13 rfl (by kernel_rfl) (by decide) (Ai b0 (by kernel_rfl)) fun K hK=>?_
    refine wc [] b0 m (JF n m.has  ex36) fun e5 bs ff cg bh bk=>?_
    replace aa:=aa.mono bh
    replace ab:=ab.mono bh
    replace ac:=ac.mono bh
    obtain⟨_,rfl,⟨_,_,rfl,⟨a2,a8,rfl,du⟩,⟨_,_,rfl,⟨a3,a9,rfl,dv⟩,⟨a4,ba,rfl,dw⟩⟩⟩⟩:=cg
    refine⟨.one (.agg [.slice a2 x36.holds.length a8,.slice a3 x36.turns.length a9,.slice a4 x36.spares.length ba]),rfl,fun d8 (b1:Kn 47 [(d,0)] [tA 36 [.slice a2 x36.holds.length a8,.slice a3 x36.turns.length a9,.slice a4 x36.spares.length ba],tA 35 (GC e x15 j f k g l),tB 34 true,tI 6 x20.2,tI 5 x20.1] d8)=>hK _ _ bk.plOk ?_⟩
    obtain⟨x37,ex37,H⟩:=A3 H
    refine Gp 14 rfl (by kernel_rfl) (by decide) (Ai b1 (by kernel_rfl)) fun K hK=>?_
    refine wc [.agg (GC e x15 j f k g l),.agg [.slice a2 x36.holds.length a8,.slice a3 x36.turns.length a9,.slice a4 x36.spares.length ba]] b1 bk (ML n bk.has x15.1 ((Aa (Ae aa) (Aa (Ae ab) (Ae ac))):rep bs x15.1 _) x36 ((Aa (Ae du) (Aa (Ae dv) (Ae dw))):rep bs x36 _) ex37) fun e6 ei fg ch em o=>?_
    obtain rfl:=ch
    refine⟨.one (.c (.bool x37)),rfl,fun ea (cx:Kn 47 [(d,0)] [tB 37 x37,tA 36 [.slice a2 x36.holds.length a8,.slice a3 x36.turns.length a9,.slice a4 x36.spares.length ba],tA 35 (GC e x15 j f k g l),tB 34 true,tI 6 x20.2,tI 5 x20.1] ea)=>hK _ _ o.plOk ?_⟩
    refine Dr [15,16] (dn 16) [tB 39 x37,tI 6 x20.2,tI 5 x20.1] cx o fun cc b2=>?_
    rcases Bool.eq_false_or_eq_true (x37) with aw | aw
    ·
     rw [aw,QW] at H
     have cy:Kn 47 [(d,0)] [tB 39 true,tI 6 x20.2,tI 5 x20.1] cc:=(b2.setB 39 true (by rfl) aw).kp
     refine Dr [17,18,19,20] (dn 20) [tB 43 (x20.2 == 0),tI 5 x20.1] cy o fun cd b3=>?_
     rcases Bool.eq_false_or_eq_true ((x20.2 == 0)) with ax | ax
     ·
      rw [ax,QW] at H
      have c0:Kn 47 [(d,0)] [tB 43 true,tI 5 x20.1] cd:=(b3.setB 43 true (by rfl) ax).kp
      refine Dr [21,22,23,24] (dn 24) [tB 0 (x20.1 == 35)] c0 o fun eu c1=>?_
      refine AH (by kernel_rfl) (wp_ret ?_)
      obtain rfl:=QZ H
      exact rt (.one (.c (.bool (x20.1 == 35)))) c1 o rfl
     ·
      rw [ax,QV] at H
      have c2:Kn 47 [(d,0)] [tB 43 false,tI 5 x20.1] cd:=(b3.setB 43 false (by rfl) ax).kp
      refine Dr [21,22,23,24] (dn 24) [tB 0 false] c2 o fun ev c3=>?_
      refine AH (by kernel_rfl) (wp_ret ?_)
      obtain rfl:=QZ H
      exact rt (.one (.c (.bool false))) c3 o rfl
    ·
     rw [aw,QV] at H
     have c4:Kn 47 [(d,0)] [tB 39 false,tI 6 x20.2,tI 5 x20.1] cc:=(b2.setB 39 false (by rfl) aw).kp
     refine Dr [17,18,19,20,21,22,23,24] (dn 24) [tB 0 false] c4 o fun ew c5=>?_
     refine AH (by kernel_rfl) (wp_ret ?_)
     obtain rfl:=QZ H
     exact rt (.one (.c (.bool false))) c5 o rfl
   ·
    rw [av,QV] at H
    have c6:Kn 47 [(d,0)] [tB 34 false,tI 6 x20.2,tI 5 x20.1,tP 3 0 0] cb:=(bz.setB 34 false (by rfl) av).kp
    refine Dr [12,13,14,15,16,17,18,19,20,21,22,23,24] (dn 24) [tB 0 false] c6 m fun ex c8=>?_
    refine AH (by kernel_rfl) (wp_ret ?_)
    obtain rfl:=QZ H
    exact rt (.one (.c (.bool false))) c8 m rfl
  ·
   rw [au,QV] at H
   have c9:Kn 47 [(d,0)] ((tB 30 false)::(Lw x20 x15)) ca:=(bx.setB 30 false (by rfl) au).kp
   refine Dr [8,9,10,11,12,13,14,15,16,17,18,19,20,21,22,23,24] (dn 24) [tB 0 false] c9 m fun ey da=>?_
   refine AH (by kernel_rfl) (wp_ret ?_)
   obtain rfl:=QZ H
   exact rt (.one (.c (.bool false))) da m rfl
 ·
  rw [ar,QV] at H
  have db:Kn 47 [(d,0)] [tB 25 false,tI 6 x20.2,tI 5 x20.1,tI 4 x15.2,tP 3 0 0,tS 1 a x10.1.length b] b9:=(bu.setB 25 false (by rfl) ar).kp
  refine Dr [3,4,5,6,7,8,9,10,11,12,13,14,15,16,17,18,19,20,21,22,23,24] (dn 24) [tB 0 false] db p fun ez dc=>?_
  refine AH (by kernel_rfl) (wp_ret ?_)
  obtain rfl:=QZ H
  exact rt (.one (.c (.bool false))) dc p rfl
end Go.Proofs.Ytokchpjijlebiaa
