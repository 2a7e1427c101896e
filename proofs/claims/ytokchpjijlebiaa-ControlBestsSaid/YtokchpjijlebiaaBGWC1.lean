/- Each call computes its plain function. -/
import Derived.Test.YtokchpjijlebiaaProg
import Derived.Test.YtokchpjijlebiaaBGP0
import Derived.Test.YtokchpjijlebiaaBGWA
import Derived.Test.YtokchpjijlebiaaBGWA1
import Derived.Test.YtokchpjijlebiaaBGWB
import Derived.Test.YtokchpjijlebiaaBGWB1
import Derived.Test.YtokchpjijlebiaaBGWZ
set_option linter.all false
namespace Go.Proofs.Ytokchpjijlebiaa
open Go Go.RowKit
open Rep (rep)
open KRep (kv)
open VRep (rv)
abbrev Hp (e:Option Addr) (x15:Am×Int) (j:Nat) (f:Option Addr) (k:Nat) (g:Option Addr) (l:Nat):List SC:=[.slice e x15.1.holds.length j,.slice f x15.1.turns.length k,.slice g x15.1.spares.length l]
abbrev Rm (u:Option Addr) (x8:Af) (x:Nat) (q:Option Addr) (y:Nat) (s:Option Addr) (z:Nat):List SC:=[.slice u x8.legs.length x,.int .i64 x8.turn.lo,.int .i64 x8.turn.hi,.slice q x8.buses.length y,.slice s x8.spares.length z,.int .i64 x8.unit,.int .i64 x8.gap,.int .i64 x8.fr,.int .i64 x8.to_]
abbrev S2 (ah:Option Addr) (x14:Af) (an:Nat) (ai:Option Addr) (ao:Nat) (aj:Option Addr) (ap:Nat):List SC:=[.slice ah x14.legs.length an,.int .i64 x14.turn.lo,.int .i64 x14.turn.hi,.slice ai x14.buses.length ao,.slice aj x14.spares.length ap,.int .i64 x14.unit,.int .i64 x14.gap,.int .i64 x14.fr,.int .i64 x14.to_]
abbrev S3 (ad:Option Addr) (x19:Af) (ak:Nat) (ae:Option Addr) (al:Nat) (af:Option Addr) (am:Nat):List SC:=[.slice ad x19.legs.length ak,.int .i64 x19.turn.lo,.int .i64 x19.turn.hi,.slice ae x19.buses.length al,.slice af x19.spares.length am,.int .i64 x19.unit,.int .i64 x19.gap,.int .i64 x19.fr,.int .i64 x19.to_]
abbrev LM (x10:(List Int)×Int) (b:Option Addr) (d:Nat):TM:=[tI 2 x10.2,tS 1 b x10.1.length d]
abbrev P5 (x20:Int×Int) (x15:Am×Int):TM:=[tI 6 x20.2,tI 5 x20.1,tI 4 x15.2,tP 3 0 0]
set_option maxRecDepth 100000 in
set_option maxHeartbeats 4000000 in
theorem GE (n:Nat) {h:Ae} {w:World} (hh:Dn h w)  {r:Bool} (H:Fd n =some r) :
  Calls Try.prog 13 #[] w (Dp (fun h v=>v=.bool r) h w):=by
 refine enter 47 [] Try.func13 rfl rfl rfl rfl fun t hk=>?_
 have hm:=Ah.begin h w hh
 unfold Fd at H
 refine XT (Aa (Rk 0 1 [] hk hm fun es c9=>?_))
 refine wf (XT (Aa ?_))
 obtain⟨x8,ex8,H⟩:=Aq H
 refine wl fun K hK=>?_
 refine wc [] c9 hm (JE n hm.has  ex8) fun fa en fl cn er b9=>?_
 obtain⟨_,rfl,⟨_,_,rfl,⟨u,x,rfl,bn⟩,⟨_,_,rfl,⟨_,_,rfl,rfl,rfl⟩,⟨_,_,rfl,⟨q,y,rfl,bp⟩,⟨_,_,rfl,⟨s,z,rfl,bq⟩,⟨_,_,rfl,rfl,⟨_,_,rfl,rfl,⟨_,_,rfl,rfl,rfl⟩⟩⟩⟩⟩⟩⟩⟩:=cn
 refine⟨.one (.agg (Rm u x8 x q y s z)),rfl,fun eb (c1:Kn 47 [] [tA 8 (Rm u x8 x q y s z)] eb)=>hK _ _ ?_⟩
 obtain⟨x9,ex9,H⟩:=Aq H
 refine wl fun K hK=>?_
 refine wc [] c1 b9 (Ri n b9.has  ex9) fun e9 bt fj ck bi b6=>?_
 replace bn:=bn.mono bi
 replace bp:=bp.mono bi
 replace bq:=bq.mono bi
 obtain⟨_,rfl,⟨_,_,rfl,⟨a5,bb,rfl,dz⟩,⟨_,_,rfl,⟨a6,bc,rfl,d0⟩,⟨a7,bd,rfl,d1⟩⟩⟩⟩:=ck
 refine⟨.one (.agg [.slice a5 x9.holds.length bb,.slice a6 x9.turns.length bc,.slice a7 x9.spares.length bd]),rfl,fun ed (df:Kn 47 [] [tA 9 [.slice a5 x9.holds.length bb,.slice a6 x9.turns.length bc,.slice a7 x9.spares.length bd],tA 8 (Rm u x8 x q y s z)] ed)=>hK _ _ ?_⟩
 obtain⟨x10,ex10,H⟩:=Aq H
 refine wl fun K hK=>?_
 refine wc [.agg (Rm u x8 x q y s z),.agg [.slice a5 x9.holds.length bb,.slice a6 x9.turns.length bc,.slice a7 x9.spares.length bd]] df b6 (Mr n b6.has x8 ((Ab (Ad bn) (Ab (Ab Ac Ac) (Ab (Ad bp) (Ab (Ad bq) (Ab Ac (Ab Ac (Ab Ac Ac))))))):rep bt x8 _) x9 ((Ab (Ad dz) (Ab (Ad d0) (Ad d1))):rep bt x9 _) ex10) fun fb em fk cl ep bl=>?_
 obtain⟨_,_,rfl,⟨b,d,rfl,a1⟩,rfl⟩:=cl
 refine⟨.tup [.c (.slice b x10.1.length d),.c (.int .i64 x10.2)],rfl,fun ee (dg:Kn 47 [] [(10,.tup [.c (.slice b x10.1.length d),.c (.int .i64 x10.2)]),tA 9 [.slice a5 x9.holds.length bb,.slice a6 x9.turns.length bc,.slice a7 x9.spares.length bd],tA 8 (Rm u x8 x q y s z)] ee)=>hK _ _ ?_⟩
 refine Rk 3 5 (LM x10 b d) dg bl fun e2 dh=>?_
 refine wf (XT (Aa ?_))
 obtain⟨x14,ex14,H⟩:=Aq H
 refine wl fun K hK=>?_
 refine wc [] dh bl (JE n bl.has  ex14) fun fc cq fm cm dq b7=>?_
 obtain⟨_,rfl,⟨_,_,rfl,⟨ah,an,rfl,d2⟩,⟨_,_,rfl,⟨_,_,rfl,rfl,rfl⟩,⟨_,_,rfl,⟨ai,ao,rfl,d3⟩,⟨_,_,rfl,⟨aj,ap,rfl,d4⟩,⟨_,_,rfl,rfl,⟨_,_,rfl,rfl,⟨_,_,rfl,rfl,rfl⟩⟩⟩⟩⟩⟩⟩⟩:=cm
 refine⟨.one (.agg (S2 ah x14 an ai ao aj ap)),rfl,fun ef (di:Kn 47 [] ((tA 14 (S2 ah x14 an ai ao aj ap))::(LM x10 b d)) ef)=>hK _ _ ?_⟩
 obtain⟨x15,ex15,H⟩:=Aq H
 refine wl fun K hK=>?_
 refine wc [.agg (S2 ah x14 an ai ao aj ap)] di b7 (IW n b7.has x14 ((Ab (Ad d2) (Ab (Ab Ac Ac) (Ab (Ad d3) (Ab (Ad d4) (Ab Ac (Ab Ac (Ab Ac Ac))))))):rep cq x14 _) ex15) fun fd bu fn co dr b8=>?_
 obtain⟨_,_,rfl,⟨_,rfl,⟨_,_,rfl,⟨e,j,rfl,aa⟩,⟨_,_,rfl,⟨f,k,rfl,ab⟩,⟨g,l,rfl,ac⟩⟩⟩⟩,rfl⟩:=co
 refine⟨.tup [.agg (Hp e x15 j f k g l),.c (.int .i64 x15.2)],rfl,fun eg (dj:Kn 47 [] ((15,.tup [.agg (Hp e x15 j f k g l),.c (.int .i64 x15.2)])::(tA 14 (S2 ah x14 an ai ao aj ap))::(LM x10 b d)) eg)=>hK _ _ ?_⟩
 refine Rk 2 3 ((tI 17 x15.2)::(tA 16 (Hp e x15 j f k g l))::(LM x10 b d)) dj b8 fun e3 dk=>?_
 refine wl fun K hK=>?_
 refine wa [.slice none 0 0,.slice none 0 0,.slice none 0 0] dk b8 fun a eh ei (dl:Kn 47 [(a,0)] ((tP 3 0 0)::(tI 17 x15.2)::(tA 16 (Hp e x15 j f k g l))::(LM x10 b d)) eh) (ds:Ah ⟨w,h,Aj⟩ bu [(a,0)] [⟨[.slice none 0 0,.slice none 0 0,.slice none 0 0],some 34⟩] [] ei)=>hK _ _ ?_
 refine wl fun K hK=>?_
 refine G2 0 0 (.agg (Hp e x15 j f k g l)) (Hp e x15 j f k g l) dl ds fun ej dm (bm:Ah ⟨w,h,Aj⟩ bu [(a,0)] [⟨Hp e x15 j f k g l,some 34⟩] [] ej)=>hK _ _ ?_
 refine Rk 7 1 ((tI 4 x15.2)::(tP 3 0 0)::(LM x10 b d)) dm bm fun e4 dp=>?_
 refine wf (XT (Aa ?_))
 obtain⟨x19,ex19,H⟩:=Aq H
 refine wl fun K hK=>?_
 refine wc [] dp bm (JE n bm.has  ex19) fun fe cr fo cp be b5=>?_
 obtain⟨_,rfl,⟨_,_,rfl,⟨ad,ak,rfl,dt⟩,⟨_,_,rfl,⟨_,_,rfl,rfl,rfl⟩,⟨_,_,rfl,⟨ae,al,rfl,du⟩,⟨_,_,rfl,⟨af,am,rfl,dv⟩,⟨_,_,rfl,rfl,⟨_,_,rfl,rfl,⟨_,_,rfl,rfl,rfl⟩⟩⟩⟩⟩⟩⟩⟩:=cp
 refine⟨.one (.agg (S3 ad x19 ak ae al af am)),rfl,fun d6 (cs:Kn 47 [(a,0)] ((tA 19 (S3 ad x19 ak ae al af am))::(tI 4 x15.2)::(tP 3 0 0)::(LM x10 b d)) d6)=>hK _ _ ?_⟩
 obtain⟨x20,ex20,H⟩:=Aq H
 refine wl fun K hK=>?_
 refine wc [.agg (S3 ad x19 ak ae al af am)] cs b5 (HX n b5.has x19 ((Ab (Ad dt) (Ab (Ab Ac Ac) (Ab (Ad du) (Ab (Ad dv) (Ab Ac (Ab Ac (Ab Ac Ac))))))):rep cr x19 _) ex20) fun e5 aq ff cg bf p=>?_
 replace a1:=a1.mono (XU (XU (XU dq dr) be) bf)
 replace aa:=aa.mono (XU be bf)
 replace ab:=ab.mono (XU be bf)
 replace ac:=ac.mono (XU be bf)
 obtain⟨_,_,rfl,rfl,rfl⟩:=cg
 refine⟨.tup [.c (.int .i64 x20.1),.c (.int .i64 x20.2)],rfl,fun d7 (ct:Kn 47 [(a,0)] ((20,.tup [.c (.int .i64 x20.1),.c (.int .i64 x20.2)])::(tA 19 (S3 ad x19 ak ae al af am))::(tI 4 x15.2)::(tP 3 0 0)::(LM x10 b d)) d7)=>hK _ _ ?_⟩
 refine Rk 2 5 ((tI 6 x20.2)::(tI 5 x20.1)::(tI 4 x15.2)::(tP 3 0 0)::(LM x10 b d)) ct p fun et cu=>?_
 refine wf (XT (An (by kernel_rfl) ?_))
 replace p:=p.drew
 refine Ao [] [(a,0)] [⟨Hp e x15 j f k g l,some 34⟩] ?_
 refine Dr [0,1,2] [2,1,0] [tB 25 (x10.2 == 0),tI 6 x20.2,tI 5 x20.1,tI 4 x15.2,tP 3 0 0,tS 1 b x10.1.length d] cu p fun ca bv=>?_
 rcases Bool.eq_false_or_eq_true ((x10.2 == 0)) with ar | ar
 ·
  rw [ar,XW] at H
  have cv:Kn 47 [(a,0)] [tB 25 true,tI 6 x20.2,tI 5 x20.1,tI 4 x15.2,tP 3 0 0,tS 1 b x10.1.length d] ca:=(bv.setB 25 true (by rfl) ar).kp
  refine Dr [3] (dn 3) ((tS 26 b x10.1.length d)::(tB 25 true)::(P5 x20 x15)) cv p fun eu bw=>?_
  refine F0 4 rfl (by kernel_rfl) (by decide) (Ak bw (by kernel_rfl)) fun K hK=>?_
  refine wS 3 1 [.int .i64 40,.int .i64 30,.int .i64 30,.int .i64 37] bw p fun ag d8 cf (bx:Kn 47 [(a,0)] ((tS 27 ag 4 4)::(tS 26 b x10.1.length d)::(tB 25 true)::(P5 x20 x15)) d8) (bj:Ah ⟨w,h,Aj⟩ aq [(a,0)] [⟨Hp e x15 j f k g l,some 34⟩] [⟨ag,4,4,3,1,([.int .i64 40,.int .i64 30,.int .i64 30,.int .i64 37]:List Value),0⟩] cf)=>?_
  have ay:Ag aq ([40,30,30,37]:List Int) ([.int .i64 40,.int .i64 30,.int .i64 30,.int .i64 37]:List Value):=⟨_,_,rfl,(Ac:rep aq (40:Int) _),⟨_,_,rfl,(Ac:rep aq (30:Int) _),⟨_,_,rfl,(Ac:rep aq (30:Int) _),⟨_,_,rfl,(Ac:rep aq (37:Int) _),rfl⟩⟩⟩⟩
  refine hK _ _ bj.plOk ?_
  obtain⟨br,az,d5,bg⟩:=bj.settle (i:=0) rfl
  replace a1:=a1.mono az
  replace ay:=ay.mono az
  replace bg:Ah ⟨w,h,Aj⟩ br [(a,0)] [⟨Hp e x15 j f k g l,some 34⟩] [⟨ag,4,4,3,1,([.int .i64 40,.int .i64 30,.int .i64 30,.int .i64 37]:List Value),(([.int .i64 40,.int .i64 30,.int .i64 30,.int .i64 37]:List Value):List Value).length⟩] cf:=bg
  have bo:A6 br ag 4 ([40,30,30,37]:List Int):=⟨_,ay,d5,bj.rowCap (i:=0) rfl⟩
  obtain⟨x28,ex28,H⟩:=Aq H
  refine F0 5 rfl (by kernel_rfl) (by decide) (Ak bx (by kernel_rfl)) fun K hK=>?_
  refine wc [.c (.slice b x10.1.length d),.c (.slice ag 4 4)] bx bg (JB n bg.has x10.1 a1 ([40,30,30,37]:List Int) bo ex28) fun e6 ek fg ch a0 m=>?_
  replace aa:=aa.mono (XU az a0)
  replace ab:=ab.mono (XU az a0)
  replace ac:=ac.mono (XU az a0)
  replace bo:=bo.mono a0
  replace ay:=ay.mono a0
  obtain rfl:=ch
  refine⟨.one (.c (.bool x28)),rfl,fun d9 (cw:Kn 47 [(a,0)] ((tB 28 x28)::(tS 27 ag 4 4)::(tS 26 b x10.1.length d)::(tB 25 true)::(P5 x20 x15)) d9)=>hK _ _ m.plOk ?_⟩
  refine Dr [6,7] (dn 7) ((tB 30 x28)::(P5 x20 x15)) cw m fun cb bz=>?_
  rcases Bool.eq_false_or_eq_true (x28) with au | au
  ·
   rw [au,XW] at H
   have cx:Kn 47 [(a,0)] ((tB 30 true)::(P5 x20 x15)) cb:=(bz.setB 30 true (by rfl) au).kp
   refine Dr [8,9,10,11] (dn 11) [tB 34 (x15.2 == 0),tI 6 x20.2,tI 5 x20.1,tP 3 0 0] cx m fun cc b0=>?_
   rcases Bool.eq_false_or_eq_true ((x15.2 == 0)) with av | av
   ·
    rw [av,XW] at H
    have cy:Kn 47 [(a,0)] [tB 34 true,tI 6 x20.2,tI 5 x20.1,tP 3 0 0] cc:=(b0.setB 34 true (by rfl) av).kp
    refine Dr [12] (dn 12) [tA 35 (Hp e x15 j f k g l),tB 34 true,tI 6 x20.2,tI 5 x20.1] cy m fun ev b1=>?_
    obtain⟨x36,ex36,H⟩:=Aq H
    refine F0 13 rfl (by kernel_rfl) (by decide) (Ak b1 (by kernel_rfl)) fun K hK=>?_
    refine wc [] b1 m (Rl n m.has  ex36) fun e7 bs fh ci bh bk=>?_
    replace aa:=aa.mono bh
    replace ab:=ab.mono bh
    replace ac:=ac.mono bh
    obtain⟨_,rfl,⟨_,_,rfl,⟨a2,a8,rfl,dw⟩,⟨_,_,rfl,⟨a3,a9,rfl,dx⟩,⟨a4,ba,rfl,dy⟩⟩⟩⟩:=ci
    refine⟨.one (.agg [.slice a2 x36.holds.length a8,.slice a3 x36.turns.length a9,.slice a4 x36.spares.length ba]),rfl,fun ea (b2:Kn 47 [(a,0)] [tA 36 [.slice a2 x36.holds.length a8,.slice a3 x36.turns.length a9,.slice a4 x36.spares.length ba],tA 35 (Hp e x15 j f k g l),tB 34 true,tI 6 x20.2,tI 5 x20.1] ea)=>hK _ _ bk.plOk ?_⟩
    obtain⟨x37,ex37,H⟩:=Aq H
    refine F0 14 rfl (by kernel_rfl) (by decide) (Ak b2 (by kernel_rfl)) fun K hK=>?_
    refine wc [.agg (Hp e x15 j f k g l),.agg [.slice a2 x36.holds.length a8,.slice a3 x36.turns.length a9,.slice a4 x36.spares.length ba]] b2 bk (MV n bk.has (Am.mk x15.1.holds x15.1.turns x15.1.spares) ((Ab (Ad aa) (Ab (Ad ab) (Ad ac))):rep bs (Am.mk x15.1.holds x15.1.turns x15.1.spares) _) x36 ((Ab (Ad dw) (Ab (Ad dx) (Ad dy))):rep bs x36 _) ex37) fun e8 el fi cj eo o=>?_
    obtain rfl:=cj
    refine⟨.one (.c (.bool x37)),rfl,fun ec (cz:Kn 47 [(a,0)] [tB 37 x37,tA 36 [.slice a2 x36.holds.length a8,.slice a3 x36.turns.length a9,.slice a4 x36.spares.length ba],tA 35 (Hp e x15 j f k g l),tB 34 true,tI 6 x20.2,tI 5 x20.1] ec)=>hK _ _ o.plOk ?_⟩
    refine Dr [15,16] (dn 16) [tB 39 x37,tI 6 x20.2,tI 5 x20.1] cz o fun cd b3=>?_
    rcases Bool.eq_false_or_eq_true (x37) with aw | aw
    ·
     rw [aw,XW] at H
     have c0:Kn 47 [(a,0)] [tB 39 true,tI 6 x20.2,tI 5 x20.1] cd:=(b3.setB 39 true (by rfl) aw).kp
     refine Dr [17,18,19,20] (dn 20) [tB 43 (x20.2 == 0),tI 5 x20.1] c0 o fun ce b4=>?_
     rcases Bool.eq_false_or_eq_true ((x20.2 == 0)) with ax | ax
     ·
      rw [ax,XW] at H
      have c2:Kn 47 [(a,0)] [tB 43 true,tI 5 x20.1] ce:=(b4.setB 43 true (by rfl) ax).kp
      refine Dr [21,22,23,24] (dn 24) [tB 0 (x20.1 == 35)] c2 o fun ew c3=>?_
      refine Ay (by kernel_rfl) (wp_ret ?_)
      obtain rfl:=XZ H
      exact rt (.one (.c (.bool (x20.1 == 35)))) c3 o rfl
     ·
      rw [ax,XV] at H
      have c4:Kn 47 [(a,0)] [tB 43 false,tI 5 x20.1] ce:=(b4.setB 43 false (by rfl) ax).kp
      refine Dr [21,22,23,24] (dn 24) [tB 0 false] c4 o fun ex c5=>?_
      refine Ay (by kernel_rfl) (wp_ret ?_)
      obtain rfl:=XZ H
      exact rt (.one (.c (.bool false))) c5 o rfl
    ·
     rw [aw,XV] at H
     have c6:Kn 47 [(a,0)] [tB 39 false,tI 6 x20.2,tI 5 x20.1] cd:=(b3.setB 39 false (by rfl) aw).kp
     refine Dr [17,18,19,20,21,22,23,24] (dn 24) [tB 0 false] c6 o fun ey c7=>?_
     refine Ay (by kernel_rfl) (wp_ret ?_)
     obtain rfl:=XZ H
     exact rt (.one (.c (.bool false))) c7 o rfl
   ·
    rw [av,XV] at H
    have c8:Kn 47 [(a,0)] [tB 34 false,tI 6 x20.2,tI 5 x20.1,tP 3 0 0] cc:=(b0.setB 34 false (by rfl) av).kp
    refine Dr [12,13,14,15,16,17,18,19,20,21,22,23,24] (dn 24) [tB 0 false] c8 m fun ez da=>?_
    refine Ay (by kernel_rfl) (wp_ret ?_)
    obtain rfl:=XZ H
    exact rt (.one (.c (.bool false))) da m rfl
  ·
   rw [au,XV] at H
   have db:Kn 47 [(a,0)] ((tB 30 false)::(P5 x20 x15)) cb:=(bz.setB 30 false (by rfl) au).kp
   refine Dr [8,9,10,11,12,13,14,15,16,17,18,19,20,21,22,23,24] (dn 24) [tB 0 false] db m fun e0 dc=>?_
   refine Ay (by kernel_rfl) (wp_ret ?_)
   obtain rfl:=XZ H
   exact rt (.one (.c (.bool false))) dc m rfl
 ·
  rw [ar,XV] at H
  have dd:Kn 47 [(a,0)] [tB 25 false,tI 6 x20.2,tI 5 x20.1,tI 4 x15.2,tP 3 0 0,tS 1 b x10.1.length d] ca:=(bv.setB 25 false (by rfl) ar).kp
  refine Dr [3,4,5,6,7,8,9,10,11,12,13,14,15,16,17,18,19,20,21,22,23,24] (dn 24) [tB 0 false] dd p fun e1 de=>?_
  refine Ay (by kernel_rfl) (wp_ret ?_)
  obtain rfl:=XZ H
  exact rt (.one (.c (.bool false))) de p rfl
end Go.Proofs.Ytokchpjijlebiaa
