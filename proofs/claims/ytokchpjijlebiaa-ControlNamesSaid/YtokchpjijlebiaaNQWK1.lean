/- Each call computes its plain function. -/
import Derived.Test.YtokchpjijlebiaaProg
import Derived.Test.YtokchpjijlebiaaNQP0
import Derived.Test.YtokchpjijlebiaaNQWP
import Derived.Test.YtokchpjijlebiaaNQWQ
import Derived.Test.YtokchpjijlebiaaNQWR
import Derived.Test.YtokchpjijlebiaaNQWV
import Derived.Test.YtokchpjijlebiaaNQWW
set_option linter.all false
namespace Go.Proofs.Ytokchpjijlebiaa
open Go Go.RowKit
open Rep (rep)
open KRep (kv)
open VRep (rv)
abbrev IL (x81:(Rg×Bool)):List SC:=[.int .i64 x81.1.lo,.int .i64 x81.1.hi]
abbrev Bf:List SC:=[.slice none 0 0,.slice none 0 0,.slice none 0 0]
abbrev Dk (ad:Option Addr) (a:A0) (af:Nat) (ae:Option Addr) (ag:Nat) (ab:Option Addr) (ac:Nat):List SC:=[.slice ad a.holds.length af,.slice ae a.turns.length ag,.slice ab a.spares.length ac]
abbrev Gd (s u x y z aa:Nat) (stop:Int):AG:=[(s,0),(u,0),(x,0),(y,0),(z,aa+(stop:Int).toNat*1),(0,0),(0,0)]
abbrev MN (s u x y z aa:Nat) (stop:Int) (b4:Nat):AG:=[(s,0),(u,0),(x,0),(y,0),(z,aa+(stop:Int).toNat*1),(b4,0),(0,0)]
abbrev MO (s u x y z aa:Nat) (stop:Int) (b5:Nat):AG:=[(s,0),(u,0),(x,0),(y,0),(z,aa+(stop:Int).toNat*1),(0,0),(b5,0)]
abbrev MP (s u x y z aa:Nat) (stop:Int) (b6:Nat):AG:=[(s,0),(u,0),(x,0),(y,0),(z,aa+(stop:Int).toNat*1),(b6,0),(0,0)]
abbrev MQ (s u x y z aa:Nat) (stop:Int) (b7:Nat):AG:=[(s,0),(u,0),(x,0),(y,0),(z,aa+(stop:Int).toNat*1),(0,0),(b7,0)]
abbrev Lx (s u x y z aa:Nat) (stop:Int) (bx:Nat):AG:=[(s,0),(u,0),(x,0),(y,0),(z,aa+(stop:Int).toNat*1),(bx,0),(0,0)]
abbrev Jv (s u x y z aa:Nat) (stop:Int) (bz:Nat):AG:=[(s,0),(u,0),(x,0),(y,0),(z,aa+(stop:Int).toNat*1),(0,0),(bz,0)]
abbrev EM (ap:Option Addr) (x48:AB) (au:Nat) (aq:Option Addr) (av:Nat) (ar:Option Addr) (aw:Nat):List SC:=[.slice ap x48.tm.length au,.slice aq x48.turns.length av,.slice ar x48.legs.length aw]
abbrev Jw (bf:Option Addr) (x45:AB) (bl:Nat) (bg:Option Addr) (bm:Nat) (bh:Option Addr) (bn:Nat):List SC:=[.slice bf x45.tm.length bl,.slice bg x45.turns.length bm,.slice bh x45.legs.length bn]
abbrev D2 (s u x y z aa:Nat) (stop:Int) (al am:Nat):AG:=[(s,0),(u,0),(x,0),(y,0),(z,aa+(stop:Int).toNat*1),(al,0),(am,0)]
abbrev F0 (bc:Option Addr) (ao:((List Int)×(List Int)×(List (List Int)))) (bi:Nat) (bd:Option Addr) (bj:Nat) (be:Option Addr) (bk:Nat):List SC:=[.slice bc ao.1.length bi,.slice bd ao.2.1.length bj,.slice be ao.2.2.length bk]
abbrev Jx (s u x y z aa:Nat) (stop:Int) (cj ck:Nat):AG:=[(s,0),(u,0),(x,0),(y,0),(z,aa+(stop:Int).toNat*1),(cj,0),(ck,0)]
abbrev Jy (s u x y z aa:Nat) (stop:Int) (al am a9:Nat):AG:=[(s,0),(u,0),(x,0),(y,0),(z,aa+(stop:Int).toNat*1),(al,0),(am,0),(a9,0)]
abbrev Au (d:Option Addr) (r_:Ag) (m:Nat) (f:Option Addr) (p:Nat) (g:Option Addr) (q:Nat):List SC:=[.slice d r_.legs.length m,.int .i64 r_.turn.lo,.int .i64 r_.turn.hi,.slice f r_.buses.length p,.slice g r_.spares.length q,.int .i64 r_.unit,.int .i64 r_.gap,.int .i64 r_.fr,.int .i64 r_.to_]
abbrev Cq (d:Option Addr) (r_:Ag) (m:Nat) (f:Option Addr) (p:Nat) (g:Option Addr) (q:Nat) (ad:Option Addr) (a:A0) (af:Nat) (ae:Option Addr) (ag:Nat) (ab:Option Addr) (ac:Nat):List SC:=[.slice d r_.legs.length m,.int .i64 r_.turn.lo,.int .i64 r_.turn.hi,.slice f r_.buses.length p,.slice g r_.spares.length q,.int .i64 r_.unit,.int .i64 r_.gap,.int .i64 r_.fr,.int .i64 r_.to_,.slice ad a.holds.length af,.slice ae a.turns.length ag,.slice ab a.spares.length ac]
abbrev Hm (d:Option Addr) (r_:Ag) (m:Nat) (f:Option Addr) (p:Nat) (g:Option Addr) (q:Nat):List SA:=[.agg (Au d r_ m f p g q),.agg [.func (.func 68) #[] #[]]]
abbrev Jz (d:Option Addr) (r_:Ag) (m:Nat) (f:Option Addr) (p:Nat) (g:Option Addr) (q:Nat) (ad:Option Addr) (a:A0) (af:Nat) (ae:Option Addr) (ag:Nat) (ab:Option Addr) (ac l:Nat):List Cu:=[⟨Au d r_ m f p g q,some 43⟩,⟨Dk ad a af ae ag ab ac,some 34⟩,⟨Bf,some 76⟩,⟨Cq d r_ m f p g q ad a af ae ag ab ac,some 115⟩,⟨[.map (some l)],none⟩,⟨[],none⟩,⟨[],none⟩]
abbrev Gx (d:Option Addr) (r_:Ag) (m:Nat) (f:Option Addr) (p:Nat) (g:Option Addr) (q:Nat) (ad:Option Addr) (a:A0) (af:Nat) (ae:Option Addr) (ag:Nat) (ab:Option Addr) (ac l:Nat):List Cu:=[⟨Au d r_ m f p g q,some 43⟩,⟨Dk ad a af ae ag ab ac,some 34⟩,⟨Bf,some 76⟩,⟨Cq d r_ m f p g q ad a af ae ag ab ac,some 115⟩,⟨[.map (some l)],none⟩,⟨[],some 76⟩,⟨[],none⟩]
abbrev Fh (d:Option Addr) (r_:Ag) (m:Nat) (f:Option Addr) (p:Nat) (g:Option Addr) (q:Nat) (ad:Option Addr) (a:A0) (af:Nat) (ae:Option Addr) (ag:Nat) (ab:Option Addr) (ac l:Nat):List Cu:=[⟨Au d r_ m f p g q,some 43⟩,⟨Dk ad a af ae ag ab ac,some 34⟩,⟨Bf,some 76⟩,⟨Cq d r_ m f p g q ad a af ae ag ab ac,some 115⟩,⟨[.map (some l)],none⟩,⟨Bf,some 76⟩,⟨[],none⟩]
abbrev CS (d:Option Addr) (r_:Ag) (m:Nat) (f:Option Addr) (p:Nat) (g:Option Addr) (q:Nat) (ad:Option Addr) (a:A0) (af:Nat) (ae:Option Addr) (ag:Nat) (ab:Option Addr) (ac l:Nat):List Cu:=[⟨Au d r_ m f p g q,some 43⟩,⟨Dk ad a af ae ag ab ac,some 34⟩,⟨Bf,some 76⟩,⟨Cq d r_ m f p g q ad a af ae ag ab ac,some 115⟩,⟨[.map (some l)],none⟩,⟨[],none⟩,⟨Bf,some 76⟩]
abbrev DV (d:Option Addr) (r_:Ag) (m:Nat) (f:Option Addr) (p:Nat) (g:Option Addr) (q:Nat) (ad:Option Addr) (a:A0) (af:Nat) (ae:Option Addr) (ag:Nat) (ab:Option Addr) (ac l:Nat):List Cu:=[⟨Au d r_ m f p g q,some 43⟩,⟨Dk ad a af ae ag ab ac,some 34⟩,⟨Bf,some 76⟩,⟨Cq d r_ m f p g q ad a af ae ag ab ac,some 115⟩,⟨[.map (some l)],none⟩,⟨[],some 76⟩,⟨Bf,some 76⟩]
abbrev D3 (d:Option Addr) (r_:Ag) (m:Nat) (f:Option Addr) (p:Nat) (g:Option Addr) (q:Nat) (ad:Option Addr) (a:A0) (af:Nat) (ae:Option Addr) (ag:Nat) (ab:Option Addr) (ac l:Nat):List Cu:=[⟨Au d r_ m f p g q,some 43⟩,⟨Dk ad a af ae ag ab ac,some 34⟩,⟨Bf,some 76⟩,⟨Cq d r_ m f p g q ad a af ae ag ab ac,some 115⟩,⟨[.map (some l)],none⟩,⟨Bf,some 76⟩,⟨Bf,some 76⟩]
abbrev AU (x41:Jh) (l:Nat):TM:=[tI 11 x41.fr,(10,.one (.c (.map (some l)))),tP 6 2 0,tP 4 1 0,tP 3 0 0]
abbrev EN (x_v13:Int) (r_:Ag) (x_v14:Int) (x41:Jh) (l:Nat):TM:=(tI 56 x_v13)::(tI 55 (IntKind.i64.wrap (((r_.buses.length:Nat):Int)+((r_.spares.length:Nat):Int))))::(tI 14 x_v14)::(tP 13 6 0)::(tP 12 5 0)::(AU x41 l)
abbrev BB (d:Option Addr) (r_:Ag) (m:Nat) (f:Option Addr) (p:Nat) (g:Option Addr) (q:Nat) (x41:Jh) (l:Nat):TM:=(tA 47 [.func (.func 69) #[] #[]])::(tA 44 [.func (.func 68) #[] #[]])::(tA 43 (Au d r_ m f p g q))::(AU x41 l)
abbrev C5 (x_v13:Int) (r_:Ag) (x_v14:Int) (x41:Jh) (l:Nat):TM:=(tB 16 (decide (x_v13<((r_.buses.length:Nat):Int))))::(tI 15 x_v13)::(EN x_v13 r_ x_v14 x41 l)
set_option maxRecDepth 100000 in
set_option maxHeartbeats 4000000 in
theorem J0 (n:Nat) {h:Ad} {w:World} (hh:Dv h w) (r_:Ag) {cs_r_:List Value} (hx_r_:rep h r_ cs_r_) (a:A0) {cs_a:List Value} (hx_a:rep h a cs_a) (stop:Int) {Q:(AB×Int)→Prop} (H:EU n r_ a stop Q) :
  Calls Try.prog 35 #[.agg cs_r_.toArray,.agg cs_a.toArray,.int .i64 stop] w (D6 (fun h v=>∃ r,Q r∧∃ v0 v1,v=.tuple #[v0,v1]∧(∃ cs,v0=.agg cs.toArray∧rep h r.1 cs)∧(v1=.int .i64 r.2)) h w):=by
 obtain⟨_,_,rfl,⟨d,m,rfl,ai⟩,⟨_,_,rfl,⟨_,_,rfl,rfl,rfl⟩,⟨_,_,rfl,⟨f,p,rfl,aj⟩,⟨_,_,rfl,⟨g,q,rfl,ak⟩,⟨_,_,rfl,rfl,⟨_,_,rfl,rfl,⟨_,_,rfl,rfl,rfl⟩⟩⟩⟩⟩⟩⟩:=hx_r_
 obtain⟨_,_,rfl,⟨ad,af,rfl,a5⟩,⟨_,_,rfl,⟨ae,ag,rfl,a6⟩,⟨ab,ac,rfl,a4⟩⟩⟩:=hx_a
 refine enter 123 [.agg (Au d r_ m f p g q),.agg (Dk ad a af ae ag ab ac),.c (.int .i64 stop)] Try.func35 rfl rfl rfl rfl fun t hk=>?_
 have hm:=Ah.begin h w hh
 unfold EU at H
 refine QT (Ab (wl fun K hK=>?_))
 refine wb (.agg (Au d r_ m f p g q)) hk hm fun s zo aei (u1:Kn 123 [(s,0)] [tP 3 0 0,tA 0 (Au d r_ m f p g q),tA 1 (Dk ad a af ae ag ab ac),tI 2 stop] zo) x7=>hK _ _ ?_
 refine wl fun K hK=>?_
 refine wb (.agg (Dk ad a af ae ag ab ac)) u1 x7 fun u zq ael (vc:Kn 123 [(s,0),(u,0)] [tP 4 1 0,tP 3 0 0,tA 0 (Au d r_ m f p g q),tA 1 (Dk ad a af ae ag ab ac),tI 2 stop] zq) x9=>hK _ _ ?_
 refine wl fun K hK=>?_
 refine wa Bf vc x9 fun x zt aep (vo:Kn 123 [(s,0),(u,0),(x,0)] [tP 6 2 0,tP 4 1 0,tP 3 0 0,tA 0 (Au d r_ m f p g q),tA 1 (Dk ad a af ae ag ab ac),tI 2 stop] zt) k6=>hK _ _ ?_
 refine Rk 3 1 [tP 6 2 0,tP 4 1 0,tP 3 0 0,tI 2 stop] vo k6 fun ac9 vt=>?_
 refine wf (QT (QT (Ab (Rk 0 2 [tA 20 (Dk ad a af ae ag ab ac),tA 19 (Au d r_ m f p g q),tP 6 2 0,tP 4 1 0,tP 3 0 0,tI 2 stop] vt k6 fun adc vx=>?_))))
 obtain⟨x21,ex21,H⟩:=H
 refine wl fun K hK=>?_
 refine wc [.agg (Au d r_ m f p g q),.agg (Dk ad a af ae ag ab ac)] vx k6 (D4 n k6.has r_ ((Aa (Ae ai) (Aa (Aa Ac Ac) (Aa (Ae aj) (Aa (Ae ak) (Aa Ac (Aa Ac (Aa Ac Ac))))))):rep h r_ _) a ((Aa (Ae a5) (Aa (Ae a6) (Ae a4))):rep h a _) ex21) fun ad1 n1 aeq rv gm e1=>?_
 replace ai:=ai.mono gm
 replace aj:=aj.mono gm
 replace ak:=ak.mono gm
 replace a5:=a5.mono gm
 replace a6:=a6.mono gm
 replace a4:=a4.mono gm
 obtain rfl:=rv
 refine⟨.one (.c (.int .i64 x21)),rfl,fun zx (wn:Kn 123 [(s,0),(u,0),(x,0)] [tI 21 x21,tA 20 (Dk ad a af ae ag ab ac),tA 19 (Au d r_ m f p g q),tP 6 2 0,tP 4 1 0,tP 3 0 0,tI 2 stop] zx)=>hK _ _ ?_⟩
 refine Rk 3 1 [tI 8 x21,tP 6 2 0,tP 4 1 0,tP 3 0 0,tI 2 stop] wn e1 fun adn wp=>?_
 refine wf (QT (Ab (Rk 0 2 [tB 23 (x21 != 0),tI 8 x21,tP 6 2 0,tP 4 1 0,tP 3 0 0,tI 2 stop] wp e1 fun ado mj=>?_)))
 refine wf (wC ((x21 != 0)) mj (fun l2=>?_) (fun l2=>?_))
 ·
  rw [l2,QW] at H
  refine QT (Ab (Rk 0 2 [tI 25 x21,tA 24 Bf,tP 6 2 0] mj e1 fun adp ws=>?_))
  refine wl fun K hK=>?_
  refine Ea 2 0 (.agg Bf) Bf ws e1 fun aet wu pe=>hK _ _ ?_
  refine Rk 3 1 [tI 7 x21,tP 6 2 0] wu pe fun adq wx=>?_
  refine wf (wp_ret ?_)
  exact rt (.tup [.agg Bf,.c (.int .i64 x21)]) wx pe ⟨_,H,⟨_,_,rfl,⟨_,rfl,((Aa (Ae Ar.nil) (Aa (Ae Ar.nil) (Ae Ar.nil))):rep n1 ((AB.mk ([]:List Int) ([]:List Int) ([]:List (List Int))):AB) _)⟩,rfl⟩⟩
 ·
  rw [l2,QV] at H
  refine wp_skip (QT (QT (Ab (Rk 0 2 [tI 27 stop,tA 26 (Au d r_ m f p g q),tP 6 2 0,tP 4 1 0,tP 3 0 0,tI 2 stop] mj e1 fun adr wz=>?_))))
  obtain⟨x28,ex28,H⟩:=H
  refine wl fun K hK=>?_
  refine wc [.agg (Au d r_ m f p g q),.c (.int .i64 stop)] wz e1 (C9 n e1.has r_ ((Aa (Ae ai) (Aa (Aa Ac Ac) (Aa (Ae aj) (Aa (Ae ak) (Aa Ac (Aa Ac (Aa Ac Ac))))))):rep n1 r_ _) stop ex28) fun ad3 n4 aex rz gn hr=>?_
  replace ai:=ai.mono gn
  replace aj:=aj.mono gn
  replace ak:=ak.mono gn
  replace a5:=a5.mono gn
  replace a6:=a6.mono gn
  replace a4:=a4.mono gn
  obtain rfl:=rz
  refine⟨.one (.c (.bool x28)),rfl,fun z3 (w3:Kn 123 [(s,0),(u,0),(x,0)] [tB 28 x28,tI 27 stop,tA 26 (Au d r_ m f p g q),tP 6 2 0,tP 4 1 0,tP 3 0 0,tI 2 stop] z3)=>hK _ _ ?_⟩
  refine Rk 3 1 [tB 29 (!x28),tP 6 2 0,tP 4 1 0,tP 3 0 0,tI 2 stop] w3 hr fun ads ml=>?_
  refine wf (wC ((!x28)) ml (fun l3=>?_) (fun l3=>?_))
  ·
   rw [l3,QW] at H
   refine QT (Ab (Rk 0 1 [tA 30 Bf,tP 6 2 0] ml hr fun adt w9=>?_))
   refine wl fun K hK=>?_
   refine Ea 2 0 (.agg Bf) Bf w9 hr fun ae1 xb pj=>hK _ _ ?_
   refine Rk 2 1 [tI 7 2,tP 6 2 0] xb pj fun adu xc=>?_
   refine wf (wp_ret ?_)
   exact rt (.tup [.agg Bf,.c (.int .i64 2)]) xc pj ⟨_,H,⟨_,_,rfl,⟨_,rfl,((Aa (Ae Ar.nil) (Aa (Ae Ar.nil) (Ae Ar.nil))):rep n4 ((AB.mk ([]:List Int) ([]:List Int) ([]:List (List Int))):AB) _)⟩,rfl⟩⟩
  ·
   rw [l3,QV] at H
   refine wp_skip (QT (Ab (Rk 0 3 [tA 33 (Cq d r_ m f p g q ad a af ae ag ab ac),tP 6 2 0,tP 4 1 0,tP 3 0 0,tI 2 stop] ml hr fun adv xh=>?_)))
   refine wl fun K hK=>?_
   refine wa [.slice none 0 0,.int .i64 0,.int .i64 0,.slice none 0 0,.slice none 0 0,.int .i64 0,.int .i64 0,.int .i64 0,.int .i64 0,.slice none 0 0,.slice none 0 0,.slice none 0 0] xh hr fun y qs ae4 (xk:Kn 123 [(s,0),(u,0),(x,0),(y,0)] [tP 9 3 0,tA 33 (Cq d r_ m f p g q ad a af ae ag ab ac),tP 6 2 0,tP 4 1 0,tP 3 0 0,tI 2 stop] qs) yi=>hK _ _ ?_
   refine wl fun K hK=>?_
   refine Ea 3 0 (.agg (Cq d r_ m f p g q ad a af ae ag ab ac)) (Cq d r_ m f p g q ad a af ae ag ab ac) xk yi fun ae7 xn m1=>hK _ _ ?_
   have xq:Kn 123 [(s,0),(u,0),(x,0),(y,0)] [tP 9 3 0,tP 6 2 0,tP 4 1 0,tP 3 0 0,tI 2 stop] qs:=xn.kp
   refine wf (QT (Ab (Rk 0 1 [tA 34 (Cq d r_ m f p g q ad a af ae ag ab ac),tP 6 2 0,tP 4 1 0,tP 3 0 0,tI 2 stop] xq m1 fun adw xr=>?_)))
   obtain⟨x35,ex35,H⟩:=H
   refine wl fun K hK=>?_
   refine wc [.agg (Cq d r_ m f p g q ad a af ae ag ab ac)] xr m1 (Dh n m1.has (AC.mk r_ a) ((Aa (Aa (Ae ai) (Aa (Aa Ac Ac) (Aa (Ae aj) (Aa (Ae ak) (Aa Ac (Aa Ac (Aa Ac Ac))))))) (Aa (Ae a5) (Aa (Ae a6) (Ae a4)))):rep n4 (AC.mk r_ a) _) ex35) fun aea sh afa r6 gp ps=>?_
   replace ai:=ai.mono gp
   replace aj:=aj.mono gp
   replace ak:=ak.mono gp
   obtain⟨i9,km,rfl,yp⟩:=r6
   refine⟨.one (.c (.slice i9 x35.length km)),rfl,fun zb (ud:Kn 123 [(s,0),(u,0),(x,0),(y,0)] [tS 35 i9 x35.length km,tA 34 (Cq d r_ m f p g q ad a af ae ag ab ac),tP 6 2 0,tP 4 1 0,tP 3 0 0,tI 2 stop] zb)=>hK _ _ ?_⟩
   refine Rk 2 1 [tI 36 stop,tS 35 i9 x35.length km,tP 6 2 0,tP 4 1 0,tP 3 0 0] ud ps fun acp ue=>?_
   obtain⟨x37,ex37,H⟩:=H
   obtain⟨yj,yl,y2⟩:=Ak ex37
   obtain⟨z,aa,abt,sk,yt,st⟩:=yp.get (by decide) y2
   obtain⟨l,ab1,abs,rfl,ah,ba⟩:=yt
   have k5:=ps.addPlc (b:=z) (o:=aa+(stop:Int).toNat*1) (cs:=[.map (some l)]) (fun j c hj=>st j _ (Al hj)) rfl (by kernel_rfl) (by kernel_rfl)
   refine A6 3 (stop) rfl rfl (rfl) rfl (by decide) ue (by rfl) (by rfl) (by rfl) sk (by rfl) yj yl (by kernel_rfl) fun zm (ul:Kn 123 [(s,0),(u,0),(x,0),(y,0),(z,aa+(stop:Int).toNat*1)] [tP 37 4 0,tI 36 stop,tS 35 i9 x35.length km,tP 6 2 0,tP 4 1 0,tP 3 0 0] zm)=>?_
   refine Rk 4 2 [(10,.one (.c (.map (some l)))),tP 6 2 0,tP 4 1 0,tP 3 0 0] ul k5 fun acq um=>?_
   refine wf (QT (Ab (Rk 0 2 [(40,.one (.c (.map (some l)))),tA 39 (Au d r_ m f p g q),(10,.one (.c (.map (some l)))),tP 6 2 0,tP 4 1 0,tP 3 0 0] um k5 fun acr un=>?_)))
   refine wl fun K hK=>?_
   refine wc [.agg (Au d r_ m f p g q),.c (.map (some l))] un k5 (E8 n k5.has r_ ((Aa (Ae ai) (Aa (Aa Ac Ac) (Aa (Ae aj) (Aa (Ae ak) (Aa Ac (Aa Ac (Aa Ac Ac))))))):rep sh r_ _) x37 ah ba H) fun adz ax aee ru ej hq=>?_
   replace ai:=ai.mono ej
   replace aj:=aj.mono ej
   replace ak:=ak.mono ej
   replace a5:=a5.mono (QU gp ej)
   replace a6:=a6.mono (QU gp ej)
   replace a4:=a4.mono (QU gp ej)
   replace ba:=ba.mono ej
   replace ah:=ej _ _ _ ah
   obtain⟨x41,H,⟨_,rfl,⟨_,_,rfl,rfl,rfl⟩⟩⟩:=ru
   refine⟨.one (.agg [.int .i64 x41.fr,.int .i64 x41.long]),rfl,fun zn (uo:Kn 123 [(s,0),(u,0),(x,0),(y,0),(z,aa+(stop:Int).toNat*1)] [tA 41 [.int .i64 x41.fr,.int .i64 x41.long],(40,.one (.c (.map (some l)))),tA 39 (Au d r_ m f p g q),(10,.one (.c (.map (some l)))),tP 6 2 0,tP 4 1 0,tP 3 0 0] zn)=>hK _ _ ?_⟩
   refine Rk 3 2 (AU x41 l) uo hq fun acs uq=>?_
   refine wf (QT (Ao (by kernel_rfl) ?_))
   replace hq:=hq.drew
   refine At [3] [(s,0),(u,0),(x,0),(y,0),(z,aa+(stop:Int).toNat*1)] [⟨Au d r_ m f p g q,some 43⟩,⟨Dk ad a af ae ag ab ac,some 34⟩,⟨Bf,some 76⟩,⟨Cq d r_ m f p g q ad a af ae ag ab ac,some 115⟩,⟨[.map (some l)],none⟩] ?_
   refine Dr [0,1,4] [4,1,0] (BB d r_ m f p g q x41 l) uq hq fun qo ur=>?_
   obtain⟨x45,ex45,H⟩:=H
   obtain⟨x48,ex48,H⟩:=H
   have ut:Kn 123 [(s,0),(u,0),(x,0),(y,0),(z,aa+(stop:Int).toNat*1),(0,0)] (BB d r_ m f p g q x41 l) qo:=ur.push (0,0) (by kernel_rfl)
   have x4:=hq.addPlc (b:=0) (o:=0) (cs:=[]) (fun j c hj=>by simp at hj) rfl (by kernel_rfl) (by kernel_rfl)
   refine Dj (e':=[(s,0),(u,0),(x,0),(y,0),(z,aa+(stop:Int).toNat*1),(0,0)]) (pl':=[⟨Au d r_ m f p g q,some 43⟩,⟨Dk ad a af ae ag ab ac,some 34⟩,⟨Bf,some 76⟩,⟨Cq d r_ m f p g q ad a af ae ag ab ac,some 115⟩,⟨[.map (some l)],none⟩,⟨[],none⟩]) (fun _ hp=>hp.pop (Nat.le_of_eq rfl) (by kernel_rfl)) ?_
   have ky:Kn 123 (Gd s u x y z aa stop) (BB d r_ m f p g q x41 l) qo:=ut.push (0,0) (by kernel_rfl)
   have c5:=x4.addPlc (b:=0) (o:=0) (cs:=[]) (fun j c hj=>by simp at hj) rfl (by kernel_rfl) (by kernel_rfl)
   refine Dj (e':=(Gd s u x y z aa stop)) (pl':=(Jz d r_ m f p g q ad a af ae ag ab ac l)) (fun _ hp=>hp.pop (Nat.le_of_eq rfl) (by kernel_rfl)) ?_
   refine Bq (fun W=>∀ (al:Nat),∀ (am:Nat),∀ (e9:Option Addr),∀ (fu:Nat),∀ (ln:List Value),∀ (fa:Option Addr),∀ (fv:Nat),∀ (lp:List Value),∀ (fb:Option Addr),∀ (fw:Nat),∀ (lq:List Value),∀ (ap:Option Addr),∀ (au:Nat),∀ (b1:List Value),∀ (aq:Option Addr),∀ (av:Nat),∀ (b2:List Value),∀ (ar:Option Addr),∀ (aw:Nat),∀ (b3:List Value),∀ a' w',(∃ (lm:Array Value)(co:Ad),a' = ⟨lm,[]⟩∧Kn 123 (D2 s u x y z aa stop al am) ((tP 13 6 0)::(tP 12 5 0)::(tA 48 (EM ap x48 au aq av ar aw))::(tA 45 [.slice e9 x45.tm.length fu,.slice fa x45.turns.length fv,.slice fb x45.legs.length fw])::(AU x41 l)) lm∧Ah ⟨w,h,Az⟩ co (D2 s u x y z aa stop al am) (D3 d r_ m f p g q ad a af ae ag ab ac l) [⟨e9,x45.tm.length,fu,3,1,ln,0⟩,⟨fa,x45.turns.length,fv,3,1,lp,0⟩,⟨fb,x45.legs.length,fw,31,1,lq,0⟩,⟨ap,x48.tm.length,au,3,1,b1,0⟩,⟨aq,x48.turns.length,av,3,1,b2,0⟩,⟨ar,x48.legs.length,aw,31,1,b3,0⟩] w'∧Ad.le ax co∧Af co x45.tm ln∧Af co x45.turns lp∧Af co x45.legs lq∧Af co x48.tm b1∧Af co x48.turns b2∧Af co x48.legs b3)→W (D2 s u x y z aa stop al am) (DV d r_ m f p g q ad a af ae ag ab ac l) [5,2,3,6,7,4,1,0] a' w') ?_ (fun m6=>?_)
   ·
    intro al am e9 fu ln fa fv lp fb fw lq ap au b1 aq av b2 ar aw b3
    rintro _ aef ⟨lm,co,rfl,uu,x5,ek,su,sv,sw,ef,eg,eh⟩
    replace ai:=ai.mono ek
    replace aj:=aj.mono ek
    replace ak:=ak.mono ek
    replace a5:=a5.mono ek
    replace a6:=a6.mono ek
    replace a4:=a4.mono ek
    replace ba:=ba.mono ek
    replace ah:=ek _ _ _ ah
    refine DG 8 rfl (by kernel_rfl) (by decide) (rfl) (by kernel_rfl) fun K hK=>?_
    refine Ea 5 0 (.agg [.slice e9 x45.tm.length fu,.slice fa x45.turns.length fv,.slice fb x45.legs.length fw]) [.slice e9 x45.tm.length fu,.slice fa x45.turns.length fv,.slice fb x45.legs.length fw] uu x5 fun aeg uv x6=>hK _ _ ?_
    refine At [3] (D2 s u x y z aa stop al am) (DV d r_ m f p g q ad a af ae ag ab ac l) ?_
    refine DG 9 rfl (by kernel_rfl) (by decide) (rfl) (by kernel_rfl) fun K hK=>?_
    refine Ea 6 0 (.agg (EM ap x48 au aq av ar aw)) (EM ap x48 au aq av ar aw) uv x6 fun aeh uw mu=>hK _ _ ?_
    refine At [3] (D2 s u x y z aa stop al am) [⟨Au d r_ m f p g q,some 43⟩,⟨Dk ad a af ae ag ab ac,some 34⟩,⟨Bf,some 76⟩,⟨Cq d r_ m f p g q ad a af ae ag ab ac,some 115⟩,⟨[.map (some l)],none⟩,⟨[],some 76⟩,⟨EM ap x48 au aq av ar aw,some 76⟩] ?_
    have ux:Kn 123 (D2 s u x y z aa stop al am) ((tP 13 6 0)::(tP 12 5 0)::(AU x41 l)) lm:=uw.kp
    refine AH (by kernel_rfl) (QT (Ab (Rk 0 1 ((tI 14 0)::(tP 13 6 0)::(tP 12 5 0)::(AU x41 l)) ux mu fun act uy=>?_)))
    refine wf (QT (QT (Ab (Rk 0 8 ((tI 56 0)::(tI 55 (IntKind.i64.wrap (((r_.buses.length:Nat):Int)+((r_.spares.length:Nat):Int))))::(tI 14 0)::(tP 13 6 0)::(tP 12 5 0)::(AU x41 l)) uy mu fun acu uz=>?_))))
    refine wf ?_
    obtain⟨nx,rq,H⟩:=PP (G:=Bj n r_ a x37 x41 x48 x45.tm x45.turns x45.legs 0 0) H
    refine A7 (fun a' w'=>∃ (ao:(List Int)×(List Int)×(List (List Int)))(bc:Option Addr)(bi:Nat)(dz:List Value)(bd:Option Addr)(bj:Nat)(en:List Value)(be:Option Addr)(bk:Nat)(e2:List Value)(nb:Array Value)(gd:Ad),a' = ⟨nb,[]⟩∧Kn 123 (D2 s u x y z aa stop al am) [tP 12 5 0,tP 6 2 0] nb∧Ah ⟨w,h,Az⟩ gd (D2 s u x y z aa stop al am) [⟨Au d r_ m f p g q,some 43⟩,⟨Dk ad a af ae ag ab ac,some 34⟩,⟨Bf,some 76⟩,⟨Cq d r_ m f p g q ad a af ae ag ab ac,some 115⟩,⟨[.map (some l)],none⟩,⟨F0 bc ao bi bd bj be bk,some 76⟩,⟨EM ap x48 au aq av ar aw,some 76⟩] [⟨bc,ao.1.length,bi,3,1,dz,0⟩,⟨bd,ao.2.1.length,bj,3,1,en,0⟩,⟨be,ao.2.2.length,bk,31,1,e2,0⟩,⟨ap,x48.tm.length,au,3,1,b1,0⟩,⟨aq,x48.turns.length,av,3,1,b2,0⟩,⟨ar,x48.legs.length,aw,31,1,b3,0⟩] w'∧Ad.le co gd∧Af gd ao.1 dz∧Af gd ao.2.1 en∧Af gd ao.2.2 e2∧nx ao) ?_ ?_
    ·
     refine wp_block ?_
     refine A5 (fun za a' w'=>∃ (x_v10:List Int)(x_v11:List Int)(x_v12:List (List Int))(x_v13:Int)(x_v14:Int)(ay:Option Addr)(a0:Nat)(bo:List Value)(az:Option Addr)(a1:Nat)(bq:List Value)(a7:Option Addr)(a8:Nat)(bb:List Value)(nc:Array Value)(et:Ad),a' = ⟨nc,[]⟩∧Kn 123 (D2 s u x y z aa stop al am) (EN x_v13 r_ x_v14 x41 l) nc∧Ah ⟨w,h,Az⟩ et (D2 s u x y z aa stop al am) [⟨Au d r_ m f p g q,some 43⟩,⟨Dk ad a af ae ag ab ac,some 34⟩,⟨Bf,some 76⟩,⟨Cq d r_ m f p g q ad a af ae ag ab ac,some 115⟩,⟨[.map (some l)],none⟩,⟨[.slice ay x_v10.length a0,.slice az x_v11.length a1,.slice a7 x_v12.length a8],some 76⟩,⟨EM ap x48 au aq av ar aw,some 76⟩] [⟨ay,x_v10.length,a0,3,1,bo,0⟩,⟨az,x_v11.length,a1,3,1,bq,0⟩,⟨a7,x_v12.length,a8,31,1,bb,0⟩,⟨ap,x48.tm.length,au,3,1,b1,0⟩,⟨aq,x48.turns.length,av,3,1,b2,0⟩,⟨ar,x48.legs.length,aw,31,1,b3,0⟩] w'∧Ad.le co et∧Af et x_v10 bo∧Af et x_v11 bq∧Af et x_v12 bb∧Bj za r_ a x37 x41 x48 x_v10 x_v11 x_v12 x_v13 x_v14 nx) n ?_ ?_
     ·
      exact QY x45.tm ⟨x45.turns,x45.legs,0,0,e9,fu,ln,fa,fv,lp,fb,fw,lq,_,_,rfl,uz.kp,mu,Ad.le_refl _,su,sv,sw,H⟩
     ·
      rintro gu _ aej ⟨x_v10,x_v11,x_v12,x_v13,x_v14,ay,a0,bo,az,a1,bq,a7,a8,bb,nc,et,rfl,u0,dw,bt,b9,ca,cq,an⟩
      obtain _ | gu:=gu
      ·
       rw [Bj] at an; exact an.elim
      rw [Bj] at an
      replace ai:=ai.mono bt
      replace aj:=aj.mono bt
      replace ak:=ak.mono bt
      replace a5:=a5.mono bt
      replace a6:=a6.mono bt
      replace a4:=a4.mono bt
      replace ba:=ba.mono bt
      replace ah:=bt _ _ _ ah
      replace ef:=ef.mono bt
      replace eg:=eg.mono bt
      replace eh:=eh.mono bt
      refine QT (Ab (Rk 0 1 ((tB 57 (decide (x_v13<(IntKind.i64.wrap (((r_.buses.length:Nat):Int)+((r_.spares.length:Nat):Int))))))::(EN x_v13 r_ x_v14 x41 l)) u0 dw fun acv mf=>?_))
      refine wf (QT (wC (decide (x_v13<(IntKind.i64.wrap (((r_.buses.length:Nat):Int)+((r_.spares.length:Nat):Int))))) mf (fun ly=>?_) (fun ly=>?_)))
      ·
       rw [ly,QW] at an
       refine wp_skip (QT (wp_block (QT (Ab (Rk 0 2 ((tI 15 x_v13)::(EN x_v13 r_ x_v14 x41 l)) mf dw fun acw u2=>?_)))))
       refine wf (QT (Ab (Rk 0 6 (C5 x_v13 r_ x_v14 x41 l) u2 dw fun acx u3=>?_)))
       refine wf (QT (QT ?_))
       obtain⟨ql,gc,an⟩:=an
       refine A7 (fun a' w'=>∃ (nd:Array Value)(hc:Ad),a' = ⟨nd,[]⟩∧Kn 123 (D2 s u x y z aa stop al am) [tB 16 (decide (x_v13<((r_.buses.length:Nat):Int))),tI 15 x_v13,tI 56 x_v13,tI 55 (IntKind.i64.wrap (((r_.buses.length:Nat):Int)+((r_.spares.length:Nat):Int))),tI 14 x_v14,tP 13 6 0,tP 12 5 0,tI 11 x41.fr,(10,.one (.c (.map (some l)))),tP 6 2 0,tP 4 1 0,tP 3 0 0,tB 77 ql] nd∧Ah ⟨w,h,Az⟩ hc (D2 s u x y z aa stop al am) [⟨Au d r_ m f p g q,some 43⟩,⟨Dk ad a af ae ag ab ac,some 34⟩,⟨Bf,some 76⟩,⟨Cq d r_ m f p g q ad a af ae ag ab ac,some 115⟩,⟨[.map (some l)],none⟩,⟨[.slice ay x_v10.length a0,.slice az x_v11.length a1,.slice a7 x_v12.length a8],some 76⟩,⟨EM ap x48 au aq av ar aw,some 76⟩] [⟨ay,x_v10.length,a0,3,1,bo,0⟩,⟨az,x_v11.length,a1,3,1,bq,0⟩,⟨a7,x_v12.length,a8,31,1,bb,0⟩,⟨ap,x48.tm.length,au,3,1,b1,0⟩,⟨aq,x48.turns.length,av,3,1,b2,0⟩,⟨ar,x48.legs.length,aw,31,1,b3,0⟩] w'∧Ad.le et hc) ?_ ?_
       ·
        refine Ab (Rk 0 3 ((tB 66 (!(decide (x_v13<((r_.buses.length:Nat):Int)))))::(C5 x_v13 r_ x_v14 x41 l)) u3 dw fun qp oj=>?_)
        rcases Bool.eq_false_or_eq_true ((!(decide (x_v13<((r_.buses.length:Nat):Int))))) with hd | hd
        ·
         rw [hd,QW] at gc
         have u4:Kn 123 (D2 s u x y z aa stop al am) ((tB 66 true)::(C5 x_v13 r_ x_v14 x41 l)) qp:=(oj.setB 66 true (by rfl) hd).kp
         refine Rk 3 7 ((tI 73 (IntKind.i64.wrap (x_v13-((r_.buses.length:Nat):Int))))::(tS 68 ab a.spares.length ac)::(tB 66 true)::(C5 x_v13 r_ x_v14 x41 l)) u4 dw fun acy ok=>?_
         obtain⟨x74,ex74,gc⟩:=A3 gc
         obtain⟨yk,ym,y3⟩:=Ak ex74
         obtain⟨nz,qm,abu,sl,yu,sx⟩:=a4.get (by decide) y3
         obtain rfl:=yu
         have pa:=dw.addPlc (b:=nz) (o:=qm+(IntKind.i64.wrap (x_v13-((r_.buses.length:Nat):Int)):Int).toNat*1) (cs:=[.bool x74]) (fun j c hj=>sx j _ (Al hj)) rfl (by kernel_rfl) (by kernel_rfl)
         refine A6 10 (IntKind.i64.wrap (x_v13-((r_.buses.length:Nat):Int))) rfl rfl (Ai ok (by kernel_rfl)) rfl (by decide) ok (by rfl) (by rfl) (by rfl) sl (by rfl) yk ym (by kernel_rfl) fun zp (u5:Kn 123 [(s,0),(u,0),(x,0),(y,0),(z,aa+(stop:Int).toNat*1),(al,0),(am,0),(nz,qm+(IntKind.i64.wrap (x_v13-((r_.buses.length:Nat):Int)):Int).toNat*1)] ((tP 74 7 0)::(tI 73 (IntKind.i64.wrap (x_v13-((r_.buses.length:Nat):Int))))::(tS 68 ab a.spares.length ac)::(tB 66 true)::(C5 x_v13 r_ x_v14 x41 l)) zp)=>?_
         refine Rk 11 3 ((tB 77 (!x74))::(C5 x_v13 r_ x_v14 x41 l)) u5 pa fun acz u6=>?_
         refine wf ?_
         obtain rfl:=QZ gc
         exact QY _ ⟨_,rfl,(u6.keep [16,15,56,55,14,13,12,11,10,6,4,3,77] (by rfl)).cut 7 (by kernel_rfl),pa.cutPl 7 (by kernel_rfl),Ad.le_refl _⟩
        ·
         rw [hd,QV] at gc
         have u7:Kn 123 (D2 s u x y z aa stop al am) ((tB 66 false)::(C5 x_v13 r_ x_v14 x41 l)) qp:=(oj.setB 66 false (by rfl) hd).kp
         refine Rk 3 11 ((tB 77 false)::(C5 x_v13 r_ x_v14 x41 l)) u7 dw fun ac0 u8=>?_
         refine wf ?_
         obtain rfl:=QZ gc
         exact QY _ ⟨_,rfl,u8.kp,dw,Ad.le_refl _⟩
       ·
        rintro _ aek ⟨nd,hc,rfl,mg,gq,bp⟩
        replace ai:=ai.mono bp
        replace aj:=aj.mono bp
        replace ak:=ak.mono bp
        replace a5:=a5.mono bp
        replace a6:=a6.mono bp
        replace a4:=a4.mono bp
        replace ba:=ba.mono bp
        replace ah:=bp _ _ _ ah
        replace b9:=b9.mono bp
        replace ca:=ca.mono bp
        replace cq:=cq.mono bp
        replace ef:=ef.mono bp
        replace eg:=eg.mono bp
        replace eh:=eh.mono bp
        refine wC (ql) mg (fun lz=>?_) (fun lz=>?_)
        ·
         rw [lz,QW] at an
         refine wp_exit (Ab (Rk 0 2 ((tI 56 (IntKind.i64.wrap (x_v13+1)))::(tI 55 (IntKind.i64.wrap (((r_.buses.length:Nat):Int)+((r_.spares.length:Nat):Int))))::(tI 14 x_v14)::(tP 13 6 0)::(tP 12 5 0)::(AU x41 l)) mg gq fun ac1 u9=>?_))
         refine wf ?_
         exact QY gu ⟨Nat.lt_succ_self _,QY x_v10 ⟨x_v11,x_v12,IntKind.i64.wrap (x_v13+1),x_v14,ay,a0,bo,az,a1,bq,a7,a8,bb,_,_,rfl,u9.kp,gq,QU bt bp,b9,ca,cq,an⟩⟩
        ·
         rw [lz,QV] at an
         refine wp_skip (QT (QT (Ab (Rk 0 2 ((tI 80 x_v14)::(79,.one (.c (.map (some l))))::(C5 x_v13 r_ x_v14 x41 l)) mg gq fun ac2 va=>?_))))
         obtain⟨x81,ex81,an⟩:=an
         refine wl fun K hK=>?_
         refine Gc (KT:=3) (E:=39) (k:=(x_v14:Int)) ((Rg.mk 0 0):Rg) (.c (.int .i64 x_v14)) va rfl rfl (by decide) (by rfl) (by rfl) (by kernel_rfl) (KL.int (by kernel_rfl)) (gq.has.map ah) ba rfl (by kernel_rfl) ⟨_,rfl,((Aa Ac Ac):rep hc ((Rg.mk 0 0):Rg) _)⟩ fun ad0 p9=>?_
         rw [QZ ex81] at p9 ⊢
         obtain⟨_,rfl,⟨_,_,rfl,rfl,rfl⟩⟩:=p9
         refine⟨.tup [.agg (IL x81),.c (.bool x81.2)],rfl,fun zr (vb:Kn 123 (D2 s u x y z aa stop al am) ((81,.tup [.agg (IL x81),.c (.bool x81.2)])::(tI 80 x_v14)::(79,.one (.c (.map (some l))))::(C5 x_v13 r_ x_v14 x41 l)) zr)=>hK _ _ ?_⟩
         refine Rk 3 3 ((tB 83 x81.2)::(tA 82 (IL x81))::(C5 x_v13 r_ x_v14 x41 l)) vb gq fun ac3 vd=>?_
         refine wl fun K hK=>?_
         refine wa [.int .i64 0,.int .i64 0] vd gq fun a9 zs aem (ve:Kn 123 (Jy s u x y z aa stop al am a9) ((tP 17 7 0)::(tB 83 x81.2)::(tA 82 (IL x81))::(C5 x_v13 r_ x_v14 x41 l)) zs) x8=>hK _ _ ?_
         refine wl fun K hK=>?_
         refine Ea 7 0 (.agg (IL x81)) (IL x81) ve x8 fun aen vf gr=>hK _ _ ?_
         refine Rk 8 1 ((tB 18 x81.2)::(tP 17 7 0)::(C5 x_v13 r_ x_v14 x41 l)) vf gr fun ac4 vg=>?_
         refine wf (QT ?_)
         obtain⟨qn,kr,an⟩:=an
         refine A7 (fun a' w'=>∃ (nf:Array Value)(b8:Ad),a' = ⟨nf,[]⟩∧Kn 123 (Jy s u x y z aa stop al am a9) [tB 16 (decide (x_v13<((r_.buses.length:Nat):Int))),tI 15 x_v13,tI 56 x_v13,tI 55 (IntKind.i64.wrap (((r_.buses.length:Nat):Int)+((r_.spares.length:Nat):Int))),tI 14 x_v14,tP 13 6 0,tP 12 5 0,tI 11 x41.fr,(10,.one (.c (.map (some l)))),tP 6 2 0,tP 4 1 0,tP 3 0 0,tB 90 qn] nf∧Ah ⟨w,h,Az⟩ b8 (Jy s u x y z aa stop al am a9) [⟨Au d r_ m f p g q,some 43⟩,⟨Dk ad a af ae ag ab ac,some 34⟩,⟨Bf,some 76⟩,⟨Cq d r_ m f p g q ad a af ae ag ab ac,some 115⟩,⟨[.map (some l)],none⟩,⟨[.slice ay x_v10.length a0,.slice az x_v11.length a1,.slice a7 x_v12.length a8],some 76⟩,⟨EM ap x48 au aq av ar aw,some 76⟩,⟨IL x81,some 39⟩] [⟨ay,x_v10.length,a0,3,1,bo,0⟩,⟨az,x_v11.length,a1,3,1,bq,0⟩,⟨a7,x_v12.length,a8,31,1,bb,0⟩,⟨ap,x48.tm.length,au,3,1,b1,0⟩,⟨aq,x48.turns.length,av,3,1,b2,0⟩,⟨ar,x48.legs.length,aw,31,1,b3,0⟩] w'∧Ad.le hc b8) ?_ ?_
         ·
          refine Ab (Rk 0 2 ((tB 85 x81.2)::(tP 17 7 0)::(C5 x_v13 r_ x_v14 x41 l)) vg gr fun qq ol=>?_)
          rcases Bool.eq_false_or_eq_true (x81.2) with he | he
          ·
           rw [he,QW] at kr
           have vh:Kn 123 (Jy s u x y z aa stop al am a9) ((tB 85 true)::(tP 17 7 0)::(C5 x_v13 r_ x_v14 x41 l)) qq:=(ol.setB 85 true (by rfl) he).kp
           refine Rk 2 5 ((tB 90 (decide (x81.1.lo>x41.fr)))::(C5 x_v13 r_ x_v14 x41 l)) vh gr fun ac5 vi=>?_
           refine wf ?_
           obtain rfl:=QZ kr
           exact QY _ ⟨_,rfl,vi.kp,gr,Ad.le_refl _⟩
          ·
           rw [he,QV] at kr
           have vj:Kn 123 (Jy s u x y z aa stop al am a9) ((tB 85 false)::(tP 17 7 0)::(C5 x_v13 r_ x_v14 x41 l)) qq:=(ol.setB 85 false (by rfl) he).kp
           refine Rk 2 5 ((tB 90 false)::(C5 x_v13 r_ x_v14 x41 l)) vj gr fun ac6 vk=>?_
           refine wf ?_
           obtain rfl:=QZ kr
           exact QY _ ⟨_,rfl,vk.kp,gr,Ad.le_refl _⟩
         ·
          rintro _ aeo ⟨nf,b8,rfl,mh,dx,cz⟩
          replace ah:=cz _ _ _ ah
          replace b9:=b9.mono cz
          replace ca:=ca.mono cz
          replace cq:=cq.mono cz
          replace ef:=ef.mono cz
          replace eg:=eg.mono cz
          replace eh:=eh.mono cz
          refine wC (qn) mh (fun l0=>?_) (fun l0=>?_)
          ·
           rw [l0,QW] at an
           refine QT (Ao (by kernel_rfl) ?_)
           replace dx:=dx.drew
           refine At [] (Jy s u x y z aa stop al am a9) [⟨Au d r_ m f p g q,some 43⟩,⟨Dk ad a af ae ag ab ac,some 34⟩,⟨Bf,some 76⟩,⟨Cq d r_ m f p g q ad a af ae ag ab ac,some 115⟩,⟨[.map (some l)],none⟩,⟨[.slice ay x_v10.length a0,.slice az x_v11.length a1,.slice a7 x_v12.length a8],some 76⟩,⟨EM ap x48 au aq av ar aw,some 76⟩,⟨IL x81,some 39⟩] ?_
           refine Dr [0,1,2,3,4,5] (dn 5) ((tI 96 x_v13)::(tS 95 ar x48.legs.length aw)::(tI 93 x_v13)::(tS 92 a7 x_v12.length a8)::(C5 x_v13 r_ x_v14 x41 l)) mh dx fun ac7 vl=>?_
           obtain⟨x97,ex97,an⟩:=an
           obtain⟨px,p3,y4⟩:=Ak ex97
           have x0:=AX px p3
           obtain⟨abv,yv,sy⟩:=Dc (sz:=1) rfl eh y4
           obtain⟨a2,a3,rfl,yn⟩:=yv
           obtain⟨br,bs⟩:=Bo dx (i:=5) rfl (b0:=0+(x_v13:Int).toNat*1) (Nat.lt_of_lt_of_le (Nat.lt_add_of_pos_right (by decide)) (Bk (sz:=1) rfl eh x0))
           have gs:=dx.addPlc (b:=br) (o:=0+(x_v13:Int).toNat*1) (cs:=[]) (fun j c hj=>by simp at hj) rfl (by kernel_rfl) (by kernel_rfl)
           have bv:∀ (e:AG) k c,([.slice a2 x97.length a3]:List SC)[k]? = some c→(b3)[0+(x_v13:Int).toNat*1+k]? = some (c.den e):=fun e k c hk=>sy k _ (Al hk)
           refine AY 6 (x_v13) [.slice a2 x97.length a3] (fun _ _ _ _ _ h=>h) rfl rfl (rfl) rfl (by decide) (by kernel_rfl) (by kernel_rfl) vl dx.plOk (by rfl) (by rfl) (by rfl) bs (by rfl) px p3 (by kernel_rfl) fun zu (vm:Kn 123 [(s,0),(u,0),(x,0),(y,0),(z,aa+(stop:Int).toNat*1),(al,0),(am,0),(a9,0),(br,0+(x_v13:Int).toNat*1)] ((tP 97 8 0)::(tI 96 x_v13)::(tS 95 ar x48.legs.length aw)::(tI 93 x_v13)::(tS 92 a7 x_v12.length a8)::(C5 x_v13 r_ x_v14 x41 l)) zu)=>?_
           refine FB [7] [7,6,5,4,3,2,1,0] [98,93,92,16,15,56,55,14,13,12,11,10,6,4,3] ((tS 98 a2 x97.length a3)::(tI 93 x_v13)::(tS 92 a7 x_v12.length a8)::(C5 x_v13 r_ x_v14 x41 l)) (fun _ _ _ _ _ h=>h) vm (Am.peek gs.plOk gs 5 8 rfl rfl bs [.slice a2 x97.length a3] (bv _)) (by kernel_rfl) (by rfl) (by kernel_rfl) fun ac8 vn=>?_
           obtain⟨x99,ex99,an⟩:=an
           obtain⟨py,p4,y5⟩:=Ak ex99
           have mp:=AX py p4
           obtain⟨abw,yw,s0⟩:=Dc (sz:=1) rfl cq y5
           obtain⟨ny,n0,rfl,acc⟩:=yw
           obtain⟨bu,n5⟩:=Bo gs (i:=2) rfl (b0:=0+(x_v13:Int).toNat*1) (Nat.lt_of_lt_of_le (Nat.lt_add_of_pos_right (by decide)) (Bk (sz:=1) rfl cq mp))
           have ya:=gs.addPlc (b:=bu) (o:=0+(x_v13:Int).toNat*1) (cs:=[]) (fun j c hj=>by simp at hj) rfl (by kernel_rfl) (by kernel_rfl)
           have ab2:∀ (e:AG) k c,([.slice ny x99.length n0]:List SC)[k]? = some c→(bb)[0+(x_v13:Int).toNat*1+k]? = some (c.den e):=fun e k c hk=>s0 k _ (Al hk)
           refine AY 8 (x_v13) [.slice ny x99.length n0] (fun _ _ _ _ _ h=>h) rfl rfl (rfl) rfl (by decide) (by kernel_rfl) (by kernel_rfl) vn (Am.peek gs.plOk gs 5 8 rfl rfl bs [.slice a2 x97.length a3] (bv _)) (by rfl) (by rfl) (by rfl) n5 (by rfl) py p4 (by kernel_rfl) fun ng (vp:Kn 123 [(s,0),(u,0),(x,0),(y,0),(z,aa+(stop:Int).toNat*1),(al,0),(am,0),(a9,0),(br,0+(x_v13:Int).toNat*1),(bu,0+(x_v13:Int).toNat*1)] ((tP 99 9 0)::(tS 98 a2 x97.length a3)::(tI 93 x_v13)::(tS 92 a7 x_v12.length a8)::(C5 x_v13 r_ x_v14 x41 l)) ng)=>?_
           obtain⟨cc,rn,an⟩:=an
           obtain⟨ab6,ab9,qa⟩:=Cm rn
           refine DG 9 rfl (by kernel_rfl) (by decide) (rfl) (by kernel_rfl) fun K hK=>?_
           refine BO 2 9 0 (0+(x_v13:Int).toNat*1) (.c (.slice a2 x97.length a3)) vp ya rfl rfl (by rfl) (by rfl) rfl rfl n5 rfl (by kernel_rfl) (Bk (sz:=1) rfl cq mp) fun aa1 vq yb=>?_
           have n8:Af b8 cc (bb.take (0+(x_v13:Int).toNat*1+0)++([.slice a2 x97.length a3]:List Value)++bb.drop (0+(x_v13:Int).toNat*1+0+1)):=by rw [qa]; exact Em (sz:=1) rfl cq mp ((Ae yn):rep b8 (x97:List Int) _)
           have pv:x_v12.length=cc.length:=by rw [qa]; simp
           have vr:Kn 123 [(s,0),(u,0),(x,0),(y,0),(z,aa+(stop:Int).toNat*1),(al,0),(am,0),(a9,0),(br,0+(x_v13:Int).toNat*1),(bu,0+(x_v13:Int).toNat*1)] [(99,.one (.c (.ptr 9 0))),(98,.one (.c (.slice a2 x97.length a3))),(93,.one (.c (.int .i64 x_v13))),(92,.one (.c (.slice a7 cc.length a8))),(16,.one (.c (.bool (decide (x_v13<((r_.buses.length:Nat):Int)))))),(15,.one (.c (.int .i64 x_v13))),(56,.one (.c (.int .i64 x_v13))),(55,.one (.c (.int .i64 (IntKind.i64.wrap (((r_.buses.length:Nat):Int)+((r_.spares.length:Nat):Int)))))),(14,.one (.c (.int .i64 x_v14))),(13,.one (.c (.ptr 6 0))),(12,.one (.c (.ptr 5 0))),(11,.one (.c (.int .i64 x41.fr))),(10,.one (.c (.map (some l)))),(6,.one (.c (.ptr 2 0))),(4,.one (.c (.ptr 1 0))),(3,.one (.c (.ptr 0 0)))] ng:=by rw [← pv]; exact vq
           have bw:Ah ⟨w,h,Az⟩ b8 [(s,0),(u,0),(x,0),(y,0),(z,aa+(stop:Int).toNat*1),(al,0),(am,0),(a9,0),(br,0+(x_v13:Int).toNat*1),(bu,0+(x_v13:Int).toNat*1)] [⟨[.slice d r_.legs.length m,.int .i64 r_.turn.lo,.int .i64 r_.turn.hi,.slice f r_.buses.length p,.slice g r_.spares.length q,.int .i64 r_.unit,.int .i64 r_.gap,.int .i64 r_.fr,.int .i64 r_.to_],some 43⟩,⟨[.slice ad a.holds.length af,.slice ae a.turns.length ag,.slice ab a.spares.length ac],some 34⟩,⟨[.slice none 0 0,.slice none 0 0,.slice none 0 0],some 76⟩,⟨[.slice d r_.legs.length m,.int .i64 r_.turn.lo,.int .i64 r_.turn.hi,.slice f r_.buses.length p,.slice g r_.spares.length q,.int .i64 r_.unit,.int .i64 r_.gap,.int .i64 r_.fr,.int .i64 r_.to_,.slice ad a.holds.length af,.slice ae a.turns.length ag,.slice ab a.spares.length ac],some 115⟩,⟨[.map (some l)],none⟩,⟨[.slice ay x_v10.length a0,.slice az x_v11.length a1,.slice a7 cc.length a8],some 76⟩,⟨[.slice ap x48.tm.length au,.slice aq x48.turns.length av,.slice ar x48.legs.length aw],some 76⟩,⟨[.int .i64 x81.1.lo,.int .i64 x81.1.hi],some 39⟩,⟨[],none⟩,⟨[],none⟩] [⟨ay,x_v10.length,a0,3,1,bo,0⟩,⟨az,x_v11.length,a1,3,1,bq,0⟩,⟨a7,cc.length,a8,31,1,bb.take (0+(x_v13:Int).toNat*1+0)++([.slice a2 x97.length a3]:List Value)++bb.drop (0+(x_v13:Int).toNat*1+0+1),0⟩,⟨ap,x48.tm.length,au,3,1,b1,0⟩,⟨aq,x48.turns.length,av,3,1,b2,0⟩,⟨ar,x48.legs.length,aw,31,1,b3,0⟩] aa1:=by rw [← pv]; exact yb
           refine hK _ _ ?_
           have vs:Kn 123 [(s,0),(u,0),(x,0),(y,0),(z,aa+(stop:Int).toNat*1),(al,0),(am,0),(a9,0),(br,0+(x_v13:Int).toNat*1),(bu,0+(x_v13:Int).toNat*1)] (C5 x_v13 r_ x_v14 x41 l) ng:=vr.kp
           refine FA (by kernel_rfl) (QT (Ab (AA 0 1 [100,15,56,55,14,13,12,11,10,6,4,3] ((tB 100 (decide (x_v13<((r_.buses.length:Nat):Int))))::(tI 15 x_v13)::(EN x_v13 r_ x_v14 x41 l)) vs (Am.peek bw.plOk bw 5 8 rfl rfl bs [.slice a2 x97.length a3] (bv _)) (by kernel_rfl) fun ada mi=>?_)))
           refine wf (wC (decide (x_v13<((r_.buses.length:Nat):Int))) mi (fun l1=>?_) (fun l1=>?_))
           ·
            rw [l1,QW] at an
            refine Ao (by kernel_rfl) ?_
            replace bw:=bw.drew
            refine At [] [(s,0),(u,0),(x,0),(y,0),(z,aa+(stop:Int).toNat*1),(al,0),(am,0),(a9,0),(br,0+(x_v13:Int).toNat*1),(bu,0+(x_v13:Int).toNat*1)] [⟨Au d r_ m f p g q,some 43⟩,⟨Dk ad a af ae ag ab ac,some 34⟩,⟨Bf,some 76⟩,⟨Cq d r_ m f p g q ad a af ae ag ab ac,some 115⟩,⟨[.map (some l)],none⟩,⟨[.slice ay x_v10.length a0,.slice az x_v11.length a1,.slice a7 cc.length a8],some 76⟩,⟨EM ap x48 au aq av ar aw,some 76⟩,⟨IL x81,some 39⟩,⟨[.slice a2 x97.length a3],none⟩,⟨[],none⟩] ?_
            refine FB [0,1,2,3,4,5,6,7,8] [8,7,6,5,4,3,2,1,0] [109,108,106,105,103,102,15,56,55,14,13,12,11,10,6,4,3] ((tI 109 x_v13)::(tS 108 ap x48.tm.length au)::(tI 106 x_v13)::(tS 105 az x_v11.length a1)::(tI 103 x_v13)::(tS 102 ay x_v10.length a0)::(tI 15 x_v13)::(EN x_v13 r_ x_v14 x41 l)) (fun _ _ _ _ _ h=>h) mi (Am.peek bw.plOk bw 5 8 rfl rfl bs [.slice a2 x97.length a3] (bv _)) (by kernel_rfl) (by rfl) (by kernel_rfl) fun adb vu=>?_
            obtain⟨x110,ex110,an⟩:=an
            obtain⟨pz,p5,y6⟩:=Ak ex110
            have x1:=AX pz p5
            obtain⟨abx,yx,s1⟩:=Dc (sz:=1) rfl ef y6
            obtain rfl:=yx
            obtain⟨cr,dv⟩:=Bo bw (i:=3) rfl (b0:=0+(x_v13:Int).toNat*1) (Nat.lt_of_lt_of_le (Nat.lt_add_of_pos_right (by decide)) (Bk (sz:=1) rfl ef x1))
            have el:=bw.addPlc (b:=cr) (o:=0+(x_v13:Int).toNat*1) (cs:=[]) (fun j c hj=>by simp at hj) rfl (by kernel_rfl) (by kernel_rfl)
            have ei:∀ (e:AG) k c,([.int .i64 x110]:List SC)[k]? = some c→(b1)[0+(x_v13:Int).toNat*1+k]? = some (c.den e):=fun e k c hk=>s1 k _ (Al hk)
            refine AY 9 (x_v13) [.int .i64 x110] (fun _ _ _ _ _ h=>h) rfl rfl (rfl) rfl (by decide) (by kernel_rfl) (by kernel_rfl) vu (Am.peek bw.plOk bw 5 8 rfl rfl bs [.slice a2 x97.length a3] (bv _)) (by rfl) (by rfl) (by rfl) dv (by rfl) pz p5 (by kernel_rfl) fun zv (vv:Kn 123 [(s,0),(u,0),(x,0),(y,0),(z,aa+(stop:Int).toNat*1),(al,0),(am,0),(a9,0),(br,0+(x_v13:Int).toNat*1),(bu,0+(x_v13:Int).toNat*1),(cr,0+(x_v13:Int).toNat*1)] ((tP 110 10 0)::(tI 109 x_v13)::(tS 108 ap x48.tm.length au)::(tI 106 x_v13)::(tS 105 az x_v11.length a1)::(tI 103 x_v13)::(tS 102 ay x_v10.length a0)::(tI 15 x_v13)::(EN x_v13 r_ x_v14 x41 l)) zv)=>?_
            refine FB [10,11,12,13] [13,12,11,10,9,8,7,6,5,4,3,2,1,0] [114,113,111,106,105,103,102,56,55,14,13,12,11,10,6,4,3] ((tI 114 x_v13)::(tS 113 aq x48.turns.length av)::(tI 111 x110)::(tI 106 x_v13)::(tS 105 az x_v11.length a1)::(tI 103 x_v13)::(tS 102 ay x_v10.length a0)::(EN x_v13 r_ x_v14 x41 l)) (fun _ _ _ _ _ h=>h) vv (Am.peek (Am.peek el.plOk el 5 8 rfl rfl bs [.slice a2 x97.length a3] (bv _)) el 3 10 rfl rfl dv [.int .i64 x110] (ei _)) (by kernel_rfl) (by rfl) (by kernel_rfl) fun add vw=>?_
            obtain⟨x115,ex115,an⟩:=an
            obtain⟨p0,p6,y7⟩:=Ak ex115
            have x2:=AX p0 p6
            obtain⟨aby,yy,s2⟩:=Dc (sz:=1) rfl eg y7
            obtain rfl:=yy
            obtain⟨di,ey⟩:=Bo el (i:=4) rfl (b0:=0+(x_v13:Int).toNat*1) (Nat.lt_of_lt_of_le (Nat.lt_add_of_pos_right (by decide)) (Bk (sz:=1) rfl eg x2))
            have c6:=el.addPlc (b:=di) (o:=0+(x_v13:Int).toNat*1) (cs:=[]) (fun j c hj=>by simp at hj) rfl (by kernel_rfl) (by kernel_rfl)
            have gi:∀ (e:AG) k c,([.int .i64 x115]:List SC)[k]? = some c→(b2)[0+(x_v13:Int).toNat*1+k]? = some (c.den e):=fun e k c hk=>s2 k _ (Al hk)
            refine AY 14 (x_v13) [.int .i64 x115] (fun _ _ _ _ _ h=>h) rfl rfl (rfl) rfl (by decide) (by kernel_rfl) (by kernel_rfl) vw (Am.peek (Am.peek el.plOk el 5 8 rfl rfl bs [.slice a2 x97.length a3] (bv _)) el 3 10 rfl rfl dv [.int .i64 x110] (ei _)) (by rfl) (by rfl) (by rfl) ey (by rfl) p0 p6 (by kernel_rfl) fun zw (vy:Kn 123 [(s,0),(u,0),(x,0),(y,0),(z,aa+(stop:Int).toNat*1),(al,0),(am,0),(a9,0),(br,0+(x_v13:Int).toNat*1),(bu,0+(x_v13:Int).toNat*1),(cr,0+(x_v13:Int).toNat*1),(di,0+(x_v13:Int).toNat*1)] ((tP 115 11 0)::(tI 114 x_v13)::(tS 113 aq x48.turns.length av)::(tI 111 x110)::(tI 106 x_v13)::(tS 105 az x_v11.length a1)::(tI 103 x_v13)::(tS 102 ay x_v10.length a0)::(EN x_v13 r_ x_v14 x41 l)) zw)=>?_
            refine FB [15] [15,14,13,12,11,10,9,8,7,6,5,4,3,2,1,0] [116,111,106,105,103,102,56,55,14,13,12,11,10,6,4,3] ((tI 116 x115)::(tI 111 x110)::(tI 106 x_v13)::(tS 105 az x_v11.length a1)::(tI 103 x_v13)::(tS 102 ay x_v10.length a0)::(EN x_v13 r_ x_v14 x41 l)) (fun _ _ _ _ _ h=>h) vy (Am.peek (Am.peek (Am.peek c6.plOk c6 5 8 rfl rfl bs [.slice a2 x97.length a3] (bv _)) c6 3 10 rfl rfl dv [.int .i64 x110] (ei _)) c6 4 11 rfl rfl ey [.int .i64 x115] (gi _)) (by kernel_rfl) (by rfl) (by kernel_rfl) fun ade vz=>?_
            obtain⟨x117,ex117,an⟩:=an
            obtain⟨p1,p7,y8⟩:=Ak ex117
            have mq:=AX p1 p7
            obtain⟨abz,yz,ab3⟩:=Dc (sz:=1) rfl b9 y8
            obtain rfl:=yz
            obtain⟨d6,n6⟩:=Bo c6 (i:=0) rfl (b0:=0+(x_v13:Int).toNat*1) (Nat.lt_of_lt_of_le (Nat.lt_add_of_pos_right (by decide)) (Bk (sz:=1) rfl b9 mq))
            have yc:=c6.addPlc (b:=d6) (o:=0+(x_v13:Int).toNat*1) (cs:=[]) (fun j c hj=>by simp at hj) rfl (by kernel_rfl) (by kernel_rfl)
            have ab4:∀ (e:AG) k c,([]:List SC)[k]? = some c→(bo)[0+(x_v13:Int).toNat*1+k]? = some (c.den e):=fun e k c hk=>by simp at hk
            refine AY 16 (x_v13) [] (fun _ _ _ _ _ h=>h) rfl rfl (rfl) rfl (by decide) (by kernel_rfl) (by kernel_rfl) vz (Am.peek (Am.peek (Am.peek c6.plOk c6 5 8 rfl rfl bs [.slice a2 x97.length a3] (bv _)) c6 3 10 rfl rfl dv [.int .i64 x110] (ei _)) c6 4 11 rfl rfl ey [.int .i64 x115] (gi _)) (by rfl) (by rfl) (by rfl) n6 (by rfl) p1 p7 (by kernel_rfl) fun qr (v2:Kn 123 [(s,0),(u,0),(x,0),(y,0),(z,aa+(stop:Int).toNat*1),(al,0),(am,0),(a9,0),(br,0+(x_v13:Int).toNat*1),(bu,0+(x_v13:Int).toNat*1),(cr,0+(x_v13:Int).toNat*1),(di,0+(x_v13:Int).toNat*1),(d6,0+(x_v13:Int).toNat*1)] ((tP 117 12 0)::(tI 116 x115)::(tI 111 x110)::(tI 106 x_v13)::(tS 105 az x_v11.length a1)::(tI 103 x_v13)::(tS 102 ay x_v10.length a0)::(EN x_v13 r_ x_v14 x41 l)) qr)=>?_
            obtain⟨c8,ro,an⟩:=an
            obtain⟨ab7,aca,qb⟩:=Cm ro
            refine Dl 17 fun K hK=>?_
            refine BO 0 12 0 (0+(x_v13:Int).toNat*1) (.c (.int .i64 x110)) v2 yc rfl rfl (by rfl) (by rfl) rfl rfl n6 rfl (by kernel_rfl) (Bk (sz:=1) rfl b9 mq) fun aa2 v3 yd=>?_
            have s3:Af b8 c8 (bo.take (0+(x_v13:Int).toNat*1+0)++([.int .i64 x110]:List Value)++bo.drop (0+(x_v13:Int).toNat*1+0+1)):=by rw [qb]; exact Em (sz:=1) rfl b9 mq (Ac:rep b8 (x110:Int) _)
            have m3:x_v10.length=c8.length:=by rw [qb]; simp
            have v4:Kn 123 [(s,0),(u,0),(x,0),(y,0),(z,aa+(stop:Int).toNat*1),(al,0),(am,0),(a9,0),(br,0+(x_v13:Int).toNat*1),(bu,0+(x_v13:Int).toNat*1),(cr,0+(x_v13:Int).toNat*1),(di,0+(x_v13:Int).toNat*1),(d6,0+(x_v13:Int).toNat*1)] [(117,.one (.c (.ptr 12 0))),(116,.one (.c (.int .i64 x115))),(111,.one (.c (.int .i64 x110))),(106,.one (.c (.int .i64 x_v13))),(105,.one (.c (.slice az x_v11.length a1))),(103,.one (.c (.int .i64 x_v13))),(102,.one (.c (.slice ay c8.length a0))),(56,.one (.c (.int .i64 x_v13))),(55,.one (.c (.int .i64 (IntKind.i64.wrap (((r_.buses.length:Nat):Int)+((r_.spares.length:Nat):Int)))))),(14,.one (.c (.int .i64 x_v14))),(13,.one (.c (.ptr 6 0))),(12,.one (.c (.ptr 5 0))),(11,.one (.c (.int .i64 x41.fr))),(10,.one (.c (.map (some l)))),(6,.one (.c (.ptr 2 0))),(4,.one (.c (.ptr 1 0))),(3,.one (.c (.ptr 0 0)))] qr:=by rw [← m3]; exact v3
            have c7:Ah ⟨w,h,Az⟩ b8 [(s,0),(u,0),(x,0),(y,0),(z,aa+(stop:Int).toNat*1),(al,0),(am,0),(a9,0),(br,0+(x_v13:Int).toNat*1),(bu,0+(x_v13:Int).toNat*1),(cr,0+(x_v13:Int).toNat*1),(di,0+(x_v13:Int).toNat*1),(d6,0+(x_v13:Int).toNat*1)] [⟨[.slice d r_.legs.length m,.int .i64 r_.turn.lo,.int .i64 r_.turn.hi,.slice f r_.buses.length p,.slice g r_.spares.length q,.int .i64 r_.unit,.int .i64 r_.gap,.int .i64 r_.fr,.int .i64 r_.to_],some 43⟩,⟨[.slice ad a.holds.length af,.slice ae a.turns.length ag,.slice ab a.spares.length ac],some 34⟩,⟨[.slice none 0 0,.slice none 0 0,.slice none 0 0],some 76⟩,⟨[.slice d r_.legs.length m,.int .i64 r_.turn.lo,.int .i64 r_.turn.hi,.slice f r_.buses.length p,.slice g r_.spares.length q,.int .i64 r_.unit,.int .i64 r_.gap,.int .i64 r_.fr,.int .i64 r_.to_,.slice ad a.holds.length af,.slice ae a.turns.length ag,.slice ab a.spares.length ac],some 115⟩,⟨[.map (some l)],none⟩,⟨[.slice ay c8.length a0,.slice az x_v11.length a1,.slice a7 cc.length a8],some 76⟩,⟨[.slice ap x48.tm.length au,.slice aq x48.turns.length av,.slice ar x48.legs.length aw],some 76⟩,⟨[.int .i64 x81.1.lo,.int .i64 x81.1.hi],some 39⟩,⟨[],none⟩,⟨[],none⟩,⟨[],none⟩,⟨[],none⟩,⟨[],none⟩] [⟨ay,c8.length,a0,3,1,bo.take (0+(x_v13:Int).toNat*1+0)++([.int .i64 x110]:List Value)++bo.drop (0+(x_v13:Int).toNat*1+0+1),0⟩,⟨az,x_v11.length,a1,3,1,bq,0⟩,⟨a7,cc.length,a8,31,1,bb.take (0+(x_v13:Int).toNat*1+0)++([.slice a2 x97.length a3]:List Value)++bb.drop (0+(x_v13:Int).toNat*1+0+1),0⟩,⟨ap,x48.tm.length,au,3,1,b1,0⟩,⟨aq,x48.turns.length,av,3,1,b2,0⟩,⟨ar,x48.legs.length,aw,31,1,b3,0⟩] aa2:=by rw [← m3]; exact yd
            try rw [m3] at hK
            refine hK _ _ (Am.peek (Am.peek (Am.peek c7.plOk c7 5 8 rfl rfl bs [.slice a2 x97.length a3] (bv _)) c7 3 10 rfl rfl dv [.int .i64 x110] (ei _)) c7 4 11 rfl rfl ey [.int .i64 x115] (gi _)) ?_
            obtain⟨x118,ex118,an⟩:=an
            obtain⟨p2,p8,y9⟩:=Ak ex118
            have mr:=AX p2 p8
            obtain⟨ab0,y1,s4⟩:=Dc (sz:=1) rfl ca y9
            obtain rfl:=y1
            obtain⟨g8,n7⟩:=Bo c7 (i:=1) rfl (b0:=0+(x_v13:Int).toNat*1) (Nat.lt_of_lt_of_le (Nat.lt_add_of_pos_right (by decide)) (Bk (sz:=1) rfl ca mr))
            have ye:=c7.addPlc (b:=g8) (o:=0+(x_v13:Int).toNat*1) (cs:=[]) (fun j c hj=>by simp at hj) rfl (by kernel_rfl) (by kernel_rfl)
            have ab5:∀ (e:AG) k c,([.int .i64 x118]:List SC)[k]? = some c→(bq)[0+(x_v13:Int).toNat*1+k]? = some (c.den e):=fun e k c hk=>s4 k _ (Al hk)
            refine AY 18 (x_v13) [.int .i64 x118] (fun _ _ _ _ _ h=>h) rfl rfl (rfl) rfl (by decide) (by kernel_rfl) (by kernel_rfl) v4 (Am.peek (Am.peek (Am.peek c7.plOk c7 5 8 rfl rfl bs [.slice a2 x97.length a3] (bv _)) c7 3 10 rfl rfl dv [.int .i64 x110] (ei _)) c7 4 11 rfl rfl ey [.int .i64 x115] (gi _)) (by rfl) (by rfl) (by rfl) n7 (by rfl) p2 p8 (by kernel_rfl) fun nh (v5:Kn 123 [(s,0),(u,0),(x,0),(y,0),(z,aa+(stop:Int).toNat*1),(al,0),(am,0),(a9,0),(br,0+(x_v13:Int).toNat*1),(bu,0+(x_v13:Int).toNat*1),(cr,0+(x_v13:Int).toNat*1),(di,0+(x_v13:Int).toNat*1),(d6,0+(x_v13:Int).toNat*1),(g8,0+(x_v13:Int).toNat*1)] ((tP 118 13 0)::(tP 117 12 0)::(tI 116 x115)::(tI 111 x110)::(tI 106 x_v13)::(tS 105 az x_v11.length a1)::(tI 103 x_v13)::(tS 102 ay c8.length a0)::(EN x_v13 r_ x_v14 x41 l)) nh)=>?_
            obtain⟨gv,rp,an⟩:=an
            obtain⟨ab8,acb,qc⟩:=Cm rp
            refine DG 19 rfl (by kernel_rfl) (by decide) (rfl) (by kernel_rfl) fun K hK=>?_
            refine BO 1 13 0 (0+(x_v13:Int).toNat*1) (.c (.int .i64 x115)) v5 ye rfl rfl (by rfl) (by rfl) rfl rfl n7 rfl (by kernel_rfl) (Bk (sz:=1) rfl ca mr) fun aa3 v6 yf=>?_
            have s5:Af b8 gv (bq.take (0+(x_v13:Int).toNat*1+0)++([.int .i64 x115]:List Value)++bq.drop (0+(x_v13:Int).toNat*1+0+1)):=by rw [qc]; exact Em (sz:=1) rfl ca mr (Ac:rep b8 (x115:Int) _)
            have pw:x_v11.length=gv.length:=by rw [qc]; simp
            have v7:Kn 123 [(s,0),(u,0),(x,0),(y,0),(z,aa+(stop:Int).toNat*1),(al,0),(am,0),(a9,0),(br,0+(x_v13:Int).toNat*1),(bu,0+(x_v13:Int).toNat*1),(cr,0+(x_v13:Int).toNat*1),(di,0+(x_v13:Int).toNat*1),(d6,0+(x_v13:Int).toNat*1),(g8,0+(x_v13:Int).toNat*1)] [(118,.one (.c (.ptr 13 0))),(117,.one (.c (.ptr 12 0))),(116,.one (.c (.int .i64 x115))),(111,.one (.c (.int .i64 x110))),(106,.one (.c (.int .i64 x_v13))),(105,.one (.c (.slice az gv.length a1))),(103,.one (.c (.int .i64 x_v13))),(102,.one (.c (.slice ay c8.length a0))),(56,.one (.c (.int .i64 x_v13))),(55,.one (.c (.int .i64 (IntKind.i64.wrap (((r_.buses.length:Nat):Int)+((r_.spares.length:Nat):Int)))))),(14,.one (.c (.int .i64 x_v14))),(13,.one (.c (.ptr 6 0))),(12,.one (.c (.ptr 5 0))),(11,.one (.c (.int .i64 x41.fr))),(10,.one (.c (.map (some l)))),(6,.one (.c (.ptr 2 0))),(4,.one (.c (.ptr 1 0))),(3,.one (.c (.ptr 0 0)))] nh:=by rw [← pw]; exact v6
            have dy:Ah ⟨w,h,Az⟩ b8 [(s,0),(u,0),(x,0),(y,0),(z,aa+(stop:Int).toNat*1),(al,0),(am,0),(a9,0),(br,0+(x_v13:Int).toNat*1),(bu,0+(x_v13:Int).toNat*1),(cr,0+(x_v13:Int).toNat*1),(di,0+(x_v13:Int).toNat*1),(d6,0+(x_v13:Int).toNat*1),(g8,0+(x_v13:Int).toNat*1)] [⟨[.slice d r_.legs.length m,.int .i64 r_.turn.lo,.int .i64 r_.turn.hi,.slice f r_.buses.length p,.slice g r_.spares.length q,.int .i64 r_.unit,.int .i64 r_.gap,.int .i64 r_.fr,.int .i64 r_.to_],some 43⟩,⟨[.slice ad a.holds.length af,.slice ae a.turns.length ag,.slice ab a.spares.length ac],some 34⟩,⟨[.slice none 0 0,.slice none 0 0,.slice none 0 0],some 76⟩,⟨[.slice d r_.legs.length m,.int .i64 r_.turn.lo,.int .i64 r_.turn.hi,.slice f r_.buses.length p,.slice g r_.spares.length q,.int .i64 r_.unit,.int .i64 r_.gap,.int .i64 r_.fr,.int .i64 r_.to_,.slice ad a.holds.length af,.slice ae a.turns.length ag,.slice ab a.spares.length ac],some 115⟩,⟨[.map (some l)],none⟩,⟨[.slice ay c8.length a0,.slice az gv.length a1,.slice a7 cc.length a8],some 76⟩,⟨[.slice ap x48.tm.length au,.slice aq x48.turns.length av,.slice ar x48.legs.length aw],some 76⟩,⟨[.int .i64 x81.1.lo,.int .i64 x81.1.hi],some 39⟩,⟨[],none⟩,⟨[],none⟩,⟨[],none⟩,⟨[],none⟩,⟨[],none⟩,⟨[],none⟩] [⟨ay,c8.length,a0,3,1,bo.take (0+(x_v13:Int).toNat*1+0)++([.int .i64 x110]:List Value)++bo.drop (0+(x_v13:Int).toNat*1+0+1),0⟩,⟨az,gv.length,a1,3,1,bq.take (0+(x_v13:Int).toNat*1+0)++([.int .i64 x115]:List Value)++bq.drop (0+(x_v13:Int).toNat*1+0+1),0⟩,⟨a7,cc.length,a8,31,1,bb.take (0+(x_v13:Int).toNat*1+0)++([.slice a2 x97.length a3]:List Value)++bb.drop (0+(x_v13:Int).toNat*1+0+1),0⟩,⟨ap,x48.tm.length,au,3,1,b1,0⟩,⟨aq,x48.turns.length,av,3,1,b2,0⟩,⟨ar,x48.legs.length,aw,31,1,b3,0⟩] aa3:=by rw [← pw]; exact yf
            refine hK _ _ ?_
            have v8:Kn 123 [(s,0),(u,0),(x,0),(y,0),(z,aa+(stop:Int).toNat*1),(al,0),(am,0),(a9,0),(br,0+(x_v13:Int).toNat*1),(bu,0+(x_v13:Int).toNat*1),(cr,0+(x_v13:Int).toNat*1),(di,0+(x_v13:Int).toNat*1),(d6,0+(x_v13:Int).toNat*1),(g8,0+(x_v13:Int).toNat*1)] (EN x_v13 r_ x_v14 x41 l) nh:=v7.kp
            refine FA (by kernel_rfl) (Ab (AA 0 3 [14,56,55,13,12,11,10,6,4,3] ((tI 14 (IntKind.i64.wrap (x_v14+1)))::(tI 56 x_v13)::(tI 55 (IntKind.i64.wrap (((r_.buses.length:Nat):Int)+((r_.spares.length:Nat):Int))))::(tP 13 6 0)::(tP 12 5 0)::(AU x41 l)) v8 (Am.peek (Am.peek (Am.peek dy.plOk dy 5 8 rfl rfl bs [.slice a2 x97.length a3] (bv _)) dy 3 10 rfl rfl dv [.int .i64 x110] (ei _)) dy 4 11 rfl rfl ey [.int .i64 x115] (gi _)) (by kernel_rfl) fun adf v9=>?_))
            refine wf (Ab (AA 0 2 [56,14,55,13,12,11,10,6,4,3] ((tI 56 (IntKind.i64.wrap (x_v13+1)))::(tI 14 (IntKind.i64.wrap (x_v14+1)))::(tI 55 (IntKind.i64.wrap (((r_.buses.length:Nat):Int)+((r_.spares.length:Nat):Int))))::(tP 13 6 0)::(tP 12 5 0)::(AU x41 l)) v9 (Am.peek (Am.peek (Am.peek dy.plOk dy 5 8 rfl rfl bs [.slice a2 x97.length a3] (bv _)) dy 3 10 rfl rfl dv [.int .i64 x110] (ei _)) dy 4 11 rfl rfl ey [.int .i64 x115] (gi _)) (by kernel_rfl) fun adg wd=>?_))
            refine wf ?_
            exact QY gu ⟨Nat.lt_succ_self _,QY c8 ⟨gv,cc,IntKind.i64.wrap (x_v13+1),IntKind.i64.wrap (x_v14+1),ay,a0,bo.take (0+(x_v13:Int).toNat*1+0)++([.int .i64 x110]:List Value)++bo.drop (0+(x_v13:Int).toNat*1+0+1),az,a1,bq.take (0+(x_v13:Int).toNat*1+0)++([.int .i64 x115]:List Value)++bq.drop (0+(x_v13:Int).toNat*1+0+1),a7,a8,bb.take (0+(x_v13:Int).toNat*1+0)++([.slice a2 x97.length a3]:List Value)++bb.drop (0+(x_v13:Int).toNat*1+0+1),_,_,rfl,(wd.keep [56,55,14,13,12,11,10,6,4,3] (by rfl)).cut 7 (by kernel_rfl),dy.cutPl 7 (by kernel_rfl),QU bt (QU bp cz),s3,s5,n8,an⟩⟩
           ·
            rw [l1,QV] at an
            refine wp_skip (Ab (AA 0 3 [14,56,55,13,12,11,10,6,4,3] ((tI 14 (IntKind.i64.wrap (x_v14+1)))::(tI 56 x_v13)::(tI 55 (IntKind.i64.wrap (((r_.buses.length:Nat):Int)+((r_.spares.length:Nat):Int))))::(tP 13 6 0)::(tP 12 5 0)::(AU x41 l)) mi (Am.peek bw.plOk bw 5 8 rfl rfl bs [.slice a2 x97.length a3] (bv _)) (by kernel_rfl) fun adh we=>?_))
            refine wf (Ab (AA 0 2 [56,14,55,13,12,11,10,6,4,3] ((tI 56 (IntKind.i64.wrap (x_v13+1)))::(tI 14 (IntKind.i64.wrap (x_v14+1)))::(tI 55 (IntKind.i64.wrap (((r_.buses.length:Nat):Int)+((r_.spares.length:Nat):Int))))::(tP 13 6 0)::(tP 12 5 0)::(AU x41 l)) we (Am.peek bw.plOk bw 5 8 rfl rfl bs [.slice a2 x97.length a3] (bv _)) (by kernel_rfl) fun adi wg=>?_))
            refine wf ?_
            exact QY gu ⟨Nat.lt_succ_self _,QY x_v10 ⟨x_v11,cc,IntKind.i64.wrap (x_v13+1),IntKind.i64.wrap (x_v14+1),ay,a0,bo,az,a1,bq,a7,a8,bb.take (0+(x_v13:Int).toNat*1+0)++([.slice a2 x97.length a3]:List Value)++bb.drop (0+(x_v13:Int).toNat*1+0+1),_,_,rfl,(wg.keep [56,55,14,13,12,11,10,6,4,3] (by rfl)).cut 7 (by kernel_rfl),bw.cutPl 7 (by kernel_rfl),QU bt (QU bp cz),b9,ca,n8,an⟩⟩
          ·
           rw [l0,QV] at an
           refine wp_skip (Ab (Rk 0 3 ((tI 14 (IntKind.i64.wrap (x_v14+1)))::(tI 56 x_v13)::(tI 55 (IntKind.i64.wrap (((r_.buses.length:Nat):Int)+((r_.spares.length:Nat):Int))))::(tP 13 6 0)::(tP 12 5 0)::(AU x41 l)) mh dx fun adj wh=>?_))
           refine wf (Ab (Rk 0 2 ((tI 56 (IntKind.i64.wrap (x_v13+1)))::(tI 14 (IntKind.i64.wrap (x_v14+1)))::(tI 55 (IntKind.i64.wrap (((r_.buses.length:Nat):Int)+((r_.spares.length:Nat):Int))))::(tP 13 6 0)::(tP 12 5 0)::(AU x41 l)) wh dx fun adk wi=>?_))
           refine wf ?_
           exact QY gu ⟨Nat.lt_succ_self _,QY x_v10 ⟨x_v11,x_v12,IntKind.i64.wrap (x_v13+1),IntKind.i64.wrap (x_v14+1),ay,a0,bo,az,a1,bq,a7,a8,bb,_,_,rfl,(wi.keep [56,55,14,13,12,11,10,6,4,3] (by rfl)).cut 7 (by kernel_rfl),dx.cutPl 7 (by kernel_rfl),QU bt (QU bp cz),b9,ca,cq,an⟩⟩
      ·
       rw [ly,QV] at an
       refine wp_exit ?_
       exact QY (x_v10,x_v11,x_v12) ⟨ay,a0,bo,az,a1,bq,a7,a8,bb,_,_,rfl,mf.kp,dw,bt,b9,ca,cq,an⟩
    ·
     rintro _ aer ⟨ao,bc,bi,dz,bd,bj,en,be,bk,e2,nb,gd,rfl,wj,pb,x3,l4,l5,l6,H⟩
     rw [rq] at H
     replace ah:=x3 _ _ _ ah
     refine QT (Ab (Rk 0 1 [tA 122 (F0 bc ao bi bd bj be bk),tP 6 2 0] wj pb fun adl wk=>?_))
     refine wl fun K hK=>?_
     refine Ea 2 0 (.agg (F0 bc ao bi bd bj be bk)) (F0 bc ao bi bd bj be bk) wk pb fun nw wm mv=>hK _ _ ?_
     refine Rk 2 1 [tI 7 0,tP 6 2 0] wm mv fun adm wo=>?_
     refine wf (wp_ret ?_)
     obtain⟨n2,kz,yq,k7⟩:=mv.settle (i:=0) rfl
     replace l4:=l4.mono kz
     replace ah:=kz _ _ _ ah
     replace k7:Ah ⟨w,h,Az⟩ n2 (D2 s u x y z aa stop al am) [⟨Au d r_ m f p g q,some 43⟩,⟨Dk ad a af ae ag ab ac,some 34⟩,⟨F0 bc ao bi bd bj be bk,some 76⟩,⟨Cq d r_ m f p g q ad a af ae ag ab ac,some 115⟩,⟨[.map (some l)],none⟩,⟨F0 bc ao bi bd bj be bk,some 76⟩,⟨EM ap x48 au aq av ar aw,some 76⟩] [⟨bc,ao.1.length,bi,3,1,dz,(dz:List Value).length⟩,⟨bd,ao.2.1.length,bj,3,1,en,0⟩,⟨be,ao.2.2.length,bk,31,1,e2,0⟩,⟨ap,x48.tm.length,au,3,1,b1,0⟩,⟨aq,x48.turns.length,av,3,1,b2,0⟩,⟨ar,x48.legs.length,aw,31,1,b3,0⟩] nw:=k7
     have m4:Ar n2 bc bi ao.1:=⟨_,l4,yq,mv.rowCap (i:=0) rfl⟩
     obtain⟨n3,k0,yr,k8⟩:=k7.settle (i:=1) rfl
     replace l5:=l5.mono (QU kz k0)
     replace ah:=k0 _ _ _ ah
     replace k8:Ah ⟨w,h,Az⟩ n3 (D2 s u x y z aa stop al am) [⟨Au d r_ m f p g q,some 43⟩,⟨Dk ad a af ae ag ab ac,some 34⟩,⟨F0 bc ao bi bd bj be bk,some 76⟩,⟨Cq d r_ m f p g q ad a af ae ag ab ac,some 115⟩,⟨[.map (some l)],none⟩,⟨F0 bc ao bi bd bj be bk,some 76⟩,⟨EM ap x48 au aq av ar aw,some 76⟩] [⟨bc,ao.1.length,bi,3,1,dz,(dz:List Value).length⟩,⟨bd,ao.2.1.length,bj,3,1,en,(en:List Value).length⟩,⟨be,ao.2.2.length,bk,31,1,e2,0⟩,⟨ap,x48.tm.length,au,3,1,b1,0⟩,⟨aq,x48.turns.length,av,3,1,b2,0⟩,⟨ar,x48.legs.length,aw,31,1,b3,0⟩] nw:=k8
     have m5:Ar n3 bd bj ao.2.1:=⟨_,l5,yr,k7.rowCap (i:=1) rfl⟩
     obtain⟨lv,k1,ys,mw⟩:=k8.settle (i:=2) rfl
     replace m4:=m4.mono (QU k0 k1)
     replace m5:=m5.mono k1
     replace l6:=l6.mono (QU (QU kz k0) k1)
     replace ah:=k1 _ _ _ ah
     replace mw:Ah ⟨w,h,Az⟩ lv (D2 s u x y z aa stop al am) [⟨Au d r_ m f p g q,some 43⟩,⟨Dk ad a af ae ag ab ac,some 34⟩,⟨F0 bc ao bi bd bj be bk,some 76⟩,⟨Cq d r_ m f p g q ad a af ae ag ab ac,some 115⟩,⟨[.map (some l)],none⟩,⟨F0 bc ao bi bd bj be bk,some 76⟩,⟨EM ap x48 au aq av ar aw,some 76⟩] [⟨bc,ao.1.length,bi,3,1,dz,(dz:List Value).length⟩,⟨bd,ao.2.1.length,bj,3,1,en,(en:List Value).length⟩,⟨be,ao.2.2.length,bk,31,1,e2,(e2:List Value).length⟩,⟨ap,x48.tm.length,au,3,1,b1,0⟩,⟨aq,x48.turns.length,av,3,1,b2,0⟩,⟨ar,x48.legs.length,aw,31,1,b3,0⟩] nw:=mw
     have yo:Ar lv be bk ao.2.2:=⟨_,l6,ys,k8.rowCap (i:=2) rfl⟩
     exact rt (.tup [.agg (F0 bc ao bi bd bj be bk),.c (.int .i64 0)]) wo mw ⟨_,H,⟨_,_,rfl,⟨_,rfl,((Aa (Ae m4) (Aa (Ae m5) (Ae yo))):rep lv ((AB.mk ao.1 ao.2.1 ao.2.2):AB) _)⟩,rfl⟩⟩
   refine Bq (fun W=>∀ (d7:Nat),∀ (fc:Option Addr),∀ (fx:Nat),∀ (hu:List Value),∀ (fd:Option Addr),∀ (fy:Nat),∀ (hv:List Value),∀ (fe:Option Addr),∀ (fz:Nat),∀ (hw:List Value),∀ (ff:Option Addr),∀ (f0:Nat),∀ (hx:List Value),∀ (fg:Option Addr),∀ (f1:Nat),∀ (hy:List Value),∀ (fh:Option Addr),∀ (f2:Nat),∀ (hz:List Value),∀ a' w',(∃ (ni:Array Value)(cv:Ad),a' = ⟨ni,[]⟩∧Kn 123 [(s,0),(u,0),(x,0),(y,0),(z,aa+(stop:Int).toNat*1),(d7,0),(0,0)] ((tP 12 5 0)::(tA 48 [.slice ff x48.tm.length f0,.slice fg x48.turns.length f1,.slice fh x48.legs.length f2])::(tA 45 [.slice fc x45.tm.length fx,.slice fd x45.turns.length fy,.slice fe x45.legs.length fz])::(AU x41 l)) ni∧Ah ⟨w,h,Az⟩ cv [(s,0),(u,0),(x,0),(y,0),(z,aa+(stop:Int).toNat*1),(d7,0),(0,0)] (Fh d r_ m f p g q ad a af ae ag ab ac l) [⟨fc,x45.tm.length,fx,3,1,hu,0⟩,⟨fd,x45.turns.length,fy,3,1,hv,0⟩,⟨fe,x45.legs.length,fz,31,1,hw,0⟩,⟨ff,x48.tm.length,f0,3,1,hx,0⟩,⟨fg,x48.turns.length,f1,3,1,hy,0⟩,⟨fh,x48.legs.length,f2,31,1,hz,0⟩] w'∧Ad.le ax cv∧Af cv x45.tm hu∧Af cv x45.turns hv∧Af cv x45.legs hw∧Af cv x48.tm hx∧Af cv x48.turns hy∧Af cv x48.legs hz)→W [(s,0),(u,0),(x,0),(y,0),(z,aa+(stop:Int).toNat*1),(d7,0),(0,0)] (Gx d r_ m f p g q ad a af ae ag ab ac l) [5,2,3,6,4,1,0] a' w') ?_ (fun qd=>?_)
   ·
    intro d7 fc fx hu fd fy hv fe fz hw ff f0 hx fg f1 hy fh f2 hz
    rintro _ aes ⟨ni,cv,rfl,wq,yg,oy,s6,s7,s8,s9,ta,tb⟩
    replace ah:=oy _ _ _ ah
    refine Dl 7 fun K hK=>?_
    refine KS 6 Bf wq yg fun jg zy aa4 (wr:Kn 123 [(s,0),(u,0),(x,0),(y,0),(z,aa+(stop:Int).toNat*1),(d7,0),(jg,0)] ((tP 13 6 0)::(tP 12 5 0)::(tA 48 [.slice ff x48.tm.length f0,.slice fg x48.turns.length f1,.slice fh x48.legs.length f2])::(tA 45 [.slice fc x45.tm.length fx,.slice fd x45.turns.length fy,.slice fe x45.legs.length fz])::(AU x41 l)) zy) (pc:Ah ⟨w,h,Az⟩ cv [(s,0),(u,0),(x,0),(y,0),(z,aa+(stop:Int).toNat*1),(d7,0),(jg,0)] (D3 d r_ m f p g q ad a af ae ag ab ac l) [⟨fc,x45.tm.length,fx,3,1,hu,0⟩,⟨fd,x45.turns.length,fy,3,1,hv,0⟩,⟨fe,x45.legs.length,fz,31,1,hw,0⟩,⟨ff,x48.tm.length,f0,3,1,hx,0⟩,⟨fg,x48.turns.length,f1,3,1,hy,0⟩,⟨fh,x48.legs.length,f2,31,1,hz,0⟩] aa4)=>hK _ _ (Am.unset 6 rfl (by kernel_rfl) (Am.forget [5] pc.plOk)) (Dj (e':=[(s,0),(u,0),(x,0),(y,0),(z,aa+(stop:Int).toNat*1),(d7,0),(jg,0)]) (pl':=(DV d r_ m f p g q ad a af ae ag ab ac l)) (fun _ hp=>hp.unset 6 rfl (by kernel_rfl)) ?_)
    refine A2 [5,2,3,6,7,4,1,0] (by kernel_rfl) (by rfl) (m6 d7 jg fc fx hu fd fy hv fe fz hw ff f0 hx fg f1 hy fh f2 hz _ _ ?_)
    exact QY _ ⟨_,rfl,wr.kp,pc,oy,s6,s7,s8,s9,ta,tb⟩
   refine Bq (fun W=>∀ (d8:Nat),∀ (fi:Option Addr),∀ (f3:Nat),∀ (h0:List Value),∀ (fj:Option Addr),∀ (f4:Nat),∀ (h1:List Value),∀ (fk:Option Addr),∀ (f5:Nat),∀ (h3:List Value),∀ (fl:Option Addr),∀ (f6:Nat),∀ (h4:List Value),∀ (fm:Option Addr),∀ (f7:Nat),∀ (h5:List Value),∀ (fn:Option Addr),∀ (f8:Nat),∀ (h6:List Value),∀ a' w',(∃ (nj:Array Value)(cw:Ad),a' = ⟨nj,[]⟩∧Kn 123 [(s,0),(u,0),(x,0),(y,0),(z,aa+(stop:Int).toNat*1),(0,0),(d8,0)] ((tP 13 6 0)::(tA 48 [.slice fl x48.tm.length f6,.slice fm x48.turns.length f7,.slice fn x48.legs.length f8])::(tA 45 [.slice fi x45.tm.length f3,.slice fj x45.turns.length f4,.slice fk x45.legs.length f5])::(AU x41 l)) nj∧Ah ⟨w,h,Az⟩ cw [(s,0),(u,0),(x,0),(y,0),(z,aa+(stop:Int).toNat*1),(0,0),(d8,0)] (CS d r_ m f p g q ad a af ae ag ab ac l) [⟨fi,x45.tm.length,f3,3,1,h0,0⟩,⟨fj,x45.turns.length,f4,3,1,h1,0⟩,⟨fk,x45.legs.length,f5,31,1,h3,0⟩,⟨fl,x48.tm.length,f6,3,1,h4,0⟩,⟨fm,x48.turns.length,f7,3,1,h5,0⟩,⟨fn,x48.legs.length,f8,31,1,h6,0⟩] w'∧Ad.le ax cw∧Af cw x45.tm h0∧Af cw x45.turns h1∧Af cw x45.legs h3∧Af cw x48.tm h4∧Af cw x48.turns h5∧Af cw x48.legs h6)→W [(s,0),(u,0),(x,0),(y,0),(z,aa+(stop:Int).toNat*1),(0,0),(d8,0)] (CS d r_ m f p g q ad a af ae ag ab ac l) [5,2,3,7,4,1,0] a' w') ?_ (fun qe=>?_)
   ·
    intro d8 fi f3 h0 fj f4 h1 fk f5 h3 fl f6 h4 fm f7 h5 fn f8 h6
    rintro _ aeu ⟨nj,cw,rfl,wt,yh,oz,tc,td,te,tf,tg,th⟩
    replace ah:=oz _ _ _ ah
    refine Dl 6 fun K hK=>?_
    refine KS 5 Bf wt yh fun jh zz aa5 (wv:Kn 123 [(s,0),(u,0),(x,0),(y,0),(z,aa+(stop:Int).toNat*1),(jh,0),(d8,0)] ((tP 12 5 0)::(tP 13 6 0)::(tA 48 [.slice fl x48.tm.length f6,.slice fm x48.turns.length f7,.slice fn x48.legs.length f8])::(tA 45 [.slice fi x45.tm.length f3,.slice fj x45.turns.length f4,.slice fk x45.legs.length f5])::(AU x41 l)) zz) (pd:Ah ⟨w,h,Az⟩ cw [(s,0),(u,0),(x,0),(y,0),(z,aa+(stop:Int).toNat*1),(jh,0),(d8,0)] (D3 d r_ m f p g q ad a af ae ag ab ac l) [⟨fi,x45.tm.length,f3,3,1,h0,0⟩,⟨fj,x45.turns.length,f4,3,1,h1,0⟩,⟨fk,x45.legs.length,f5,31,1,h3,0⟩,⟨fl,x48.tm.length,f6,3,1,h4,0⟩,⟨fm,x48.turns.length,f7,3,1,h5,0⟩,⟨fn,x48.legs.length,f8,31,1,h6,0⟩] aa5)=>hK _ _ (Am.unset 5 rfl (by kernel_rfl) (Am.forget [5] pd.plOk)) (Dj (e':=[(s,0),(u,0),(x,0),(y,0),(z,aa+(stop:Int).toNat*1),(jh,0),(d8,0)]) (pl':=(DV d r_ m f p g q ad a af ae ag ab ac l)) (fun _ hp=>hp.unset 5 rfl (by kernel_rfl)) ?_)
    refine A2 [5,2,3,6,7,4,1,0] (by kernel_rfl) (by rfl) (m6 jh d8 fi f3 h0 fj f4 h1 fk f5 h3 fl f6 h4 fm f7 h5 fn f8 h6 _ _ ?_)
    exact QY _ ⟨_,rfl,wv.kp,pd,oz,tc,td,te,tf,tg,th⟩
   refine Bq (fun W=>∀ (eo:Nat),∀ (ep:Nat),∀ (fo:Option Addr),∀ (f9:Nat),∀ (h7:List Value),∀ (fp:Option Addr),∀ (ga:Nat),∀ (h8:List Value),∀ (fq:Option Addr),∀ (gb:Nat),∀ (h9:List Value),∀ a' w',(∃ (nk:Array Value)(du:Ad),a' = ⟨nk,[]⟩∧Kn 123 [(s,0),(u,0),(x,0),(y,0),(z,aa+(stop:Int).toNat*1),(eo,0),(ep,0)] ((tP 13 6 0)::(tP 12 5 0)::(tA 46 (Au d r_ m f p g q))::(tA 45 [.slice fo x45.tm.length f9,.slice fp x45.turns.length ga,.slice fq x45.legs.length gb])::(tA 47 [.func (.func 69) #[] #[]])::(AU x41 l)) nk∧Ah ⟨w,h,Az⟩ du [(s,0),(u,0),(x,0),(y,0),(z,aa+(stop:Int).toNat*1),(eo,0),(ep,0)] (D3 d r_ m f p g q ad a af ae ag ab ac l) [⟨fo,x45.tm.length,f9,3,1,h7,0⟩,⟨fp,x45.turns.length,ga,3,1,h8,0⟩,⟨fq,x45.legs.length,gb,31,1,h9,0⟩] w'∧Ad.le ax du∧Af du x45.tm h7∧Af du x45.turns h8∧Af du x45.legs h9)→W [(s,0),(u,0),(x,0),(y,0),(z,aa+(stop:Int).toNat*1),(eo,0),(ep,0)] (DV d r_ m f p g q ad a af ae ag ab ac l) [2,3,6,7,4,1,0] a' w') ?_ (fun ll=>?_)
   ·
    intro eo ep fo f9 h7 fp ga h8 fq gb h9
    rintro _ aev ⟨nk,du,rfl,ww,pf,hf,l7,l8,l9⟩
    replace ai:=ai.mono hf
    replace aj:=aj.mono hf
    replace ak:=ak.mono hf
    replace ah:=hf _ _ _ ah
    refine Dl 5 fun K hK=>?_
    refine C4 [.agg (Au d r_ m f p g q),.agg [.func (.func 69) #[] #[]]] _ ww pf rfl rfl (by decide) (by rfl) rfl (fun _ _=>by kernel_rfl) (Av n pf.has r_ ((Aa (Ae ai) (Aa (Aa Ac Ac) (Aa (Ae aj) (Aa (Ae ak) (Aa Ac (Aa Ac (Aa Ac Ac))))))):rep du r_ _) (Gl.mk (fun(y0:Rg)=>Ap n y0)) (⟨_,_,_,rfl,(show Mt du (.func (.func 69) #[] #[]) (fun(y0:Rg)=>Ap n y0) from fun h2 w2 hle hh y0 cs0 hy0 r H=>⟨69,_,_,rfl,fun _ _=>by kernel_rfl,Ca n hh y0 hy0 H⟩)⟩:rep du (Gl.mk (fun(y0:Rg)=>Ap n y0)) _) ex48) fun ad2 sb aa6 acf rx hg k9=>?_
    replace l7:=l7.mono hg
    replace l8:=l8.mono hg
    replace l9:=l9.mono hg
    replace ah:=hg _ _ _ ah
    obtain⟨il,j1,qz,im,j2,q0,io,j3,q1,rfl,rfl,ti,tj,tk⟩:=rx
    replace k9:Ah ⟨w,h,Az⟩ sb [(s,0),(u,0),(x,0),(y,0),(z,aa+(stop:Int).toNat*1),(eo,0),(ep,0)] (D3 d r_ m f p g q ad a af ae ag ab ac l) [⟨fo,x45.tm.length,f9,3,1,h7,0⟩,⟨fp,x45.turns.length,ga,3,1,h8,0⟩,⟨fq,x45.legs.length,gb,31,1,h9,0⟩,⟨il,x48.tm.length,j1,3,1,qz,0⟩,⟨im,x48.turns.length,j2,3,1,q0,0⟩,⟨io,x48.legs.length,j3,31,1,q1,0⟩] aa6:=k9
    refine⟨.one (.agg [.slice il x48.tm.length j1,.slice im x48.turns.length j2,.slice io x48.legs.length j3]),rfl,fun z0 (wy:Kn 123 [(s,0),(u,0),(x,0),(y,0),(z,aa+(stop:Int).toNat*1),(eo,0),(ep,0)] ((tA 48 [.slice il x48.tm.length j1,.slice im x48.turns.length j2,.slice io x48.legs.length j3])::(tP 13 6 0)::(tP 12 5 0)::(tA 46 (Au d r_ m f p g q))::(tA 45 [.slice fo x45.tm.length f9,.slice fp x45.turns.length ga,.slice fq x45.legs.length gb])::(tA 47 [.func (.func 69) #[] #[]])::(AU x41 l)) z0)=>hK _ _ (Am.forget [5] k9.plOk) ?_⟩
    refine A2 [5,2,3,6,7,4,1,0] (by kernel_rfl) (by rfl) (m6 eo ep fo f9 h7 fp ga h8 fq gb h9 il j1 qz im j2 q0 io j3 q1 _ _ ?_)
    exact QY _ ⟨_,rfl,wy.kp,k9,QU hf hg,l7,l8,l9,ti,tj,tk⟩
   refine Bq (fun W=>∀ (b4:Nat),∀ (c9:Option Addr),∀ (dj:Nat),∀ (e3:List Value),∀ (da:Option Addr),∀ (dk:Nat),∀ (e4:List Value),∀ (db:Option Addr),∀ (dl:Nat),∀ (e5:List Value),∀ a' w',(∃ (nl:Array Value)(cx:Ad),a' = ⟨nl,[]⟩∧Kn 123 (MN s u x y z aa stop b4) ((tP 12 5 0)::(tA 46 (Au d r_ m f p g q))::(tA 45 [.slice c9 x45.tm.length dj,.slice da x45.turns.length dk,.slice db x45.legs.length dl])::(tA 47 [.func (.func 69) #[] #[]])::(AU x41 l)) nl∧Ah ⟨w,h,Az⟩ cx (MN s u x y z aa stop b4) (Fh d r_ m f p g q ad a af ae ag ab ac l) [⟨c9,x45.tm.length,dj,3,1,e3,0⟩,⟨da,x45.turns.length,dk,3,1,e4,0⟩,⟨db,x45.legs.length,dl,31,1,e5,0⟩] w'∧Ad.le ax cx∧Af cx x45.tm e3∧Af cx x45.turns e4∧Af cx x45.legs e5)→W (MN s u x y z aa stop b4) (Gx d r_ m f p g q ad a af ae ag ab ac l) [2,3,6,4,1,0] a' w') ?_ (fun m7=>?_)
   ·
    intro b4 c9 dj e3 da dk e4 db dl e5
    rintro _ aew ⟨nl,cx,rfl,om,mx,c0,ks,kt,ku⟩
    replace ai:=ai.mono c0
    replace aj:=aj.mono c0
    replace ak:=ak.mono c0
    replace a5:=a5.mono c0
    replace a6:=a6.mono c0
    replace a4:=a4.mono c0
    replace ba:=ba.mono c0
    replace ah:=c0 _ _ _ ah
    refine EZ 5 7 rfl rfl (by kernel_rfl) (by decide) (rfl) (rfl) (fun K hK=>?_) (fun K hK=>?_)
    ·
     refine C4 [.agg (Au d r_ m f p g q),.agg [.func (.func 69) #[] #[]]] _ om mx rfl rfl (by decide) (by rfl) rfl (fun _ _=>by kernel_rfl) (Av n mx.has r_ ((Aa (Ae ai) (Aa (Aa Ac Ac) (Aa (Ae aj) (Aa (Ae ak) (Aa Ac (Aa Ac (Aa Ac Ac))))))):rep cx r_ _) (Gl.mk (fun(y0:Rg)=>Ap n y0)) (⟨_,_,_,rfl,(show Mt cx (.func (.func 69) #[] #[]) (fun(y0:Rg)=>Ap n y0) from fun h2 w2 hle hh y0 cs0 hy0 r H=>⟨69,_,_,rfl,fun _ _=>by kernel_rfl,Ca n hh y0 hy0 H⟩)⟩:rep cx (Gl.mk (fun(y0:Rg)=>Ap n y0)) _) ex48) fun ad4 sc aa7 acg ry hl la=>?_
     replace ks:=ks.mono hl
     replace kt:=kt.mono hl
     replace ku:=ku.mono hl
     replace ah:=hl _ _ _ ah
     obtain⟨ip,j4,q2,iq,j5,q3,ir,j6,q4,rfl,rfl,tl,tn,tp⟩:=ry
     replace la:Ah ⟨w,h,Az⟩ sc (MN s u x y z aa stop b4) (Fh d r_ m f p g q ad a af ae ag ab ac l) [⟨c9,x45.tm.length,dj,3,1,e3,0⟩,⟨da,x45.turns.length,dk,3,1,e4,0⟩,⟨db,x45.legs.length,dl,31,1,e5,0⟩,⟨ip,x48.tm.length,j4,3,1,q2,0⟩,⟨iq,x48.turns.length,j5,3,1,q3,0⟩,⟨ir,x48.legs.length,j6,31,1,q4,0⟩] aa7:=la
     refine⟨.one (.agg [.slice ip x48.tm.length j4,.slice iq x48.turns.length j5,.slice ir x48.legs.length j6]),rfl,fun z1 (w0:Kn 123 (MN s u x y z aa stop b4) ((tA 48 [.slice ip x48.tm.length j4,.slice iq x48.turns.length j5,.slice ir x48.legs.length j6])::(tP 12 5 0)::(tA 46 (Au d r_ m f p g q))::(tA 45 [.slice c9 x45.tm.length dj,.slice da x45.turns.length dk,.slice db x45.legs.length dl])::(tA 47 [.func (.func 69) #[] #[]])::(AU x41 l)) z1)=>hK _ _ (Am.forget [5] la.plOk) ?_⟩
     refine A2 [5,2,3,6,4,1,0] (by kernel_rfl) (by rfl) (qd b4 c9 dj e3 da dk e4 db dl e5 ip j4 q2 iq j5 q3 ir j6 q4 _ _ ?_)
     exact QY _ ⟨_,rfl,w0.kp,la,QU c0 hl,ks,kt,ku,tl,tn,tp⟩
    ·
     refine KS 6 Bf om mx fun ji z2 aa8 (w1:Kn 123 [(s,0),(u,0),(x,0),(y,0),(z,aa+(stop:Int).toNat*1),(b4,0),(ji,0)] ((tP 13 6 0)::(tP 12 5 0)::(tA 46 (Au d r_ m f p g q))::(tA 45 [.slice c9 x45.tm.length dj,.slice da x45.turns.length dk,.slice db x45.legs.length dl])::(tA 47 [.func (.func 69) #[] #[]])::(AU x41 l)) z2) (pg:Ah ⟨w,h,Az⟩ cx [(s,0),(u,0),(x,0),(y,0),(z,aa+(stop:Int).toNat*1),(b4,0),(ji,0)] (D3 d r_ m f p g q ad a af ae ag ab ac l) [⟨c9,x45.tm.length,dj,3,1,e3,0⟩,⟨da,x45.turns.length,dk,3,1,e4,0⟩,⟨db,x45.legs.length,dl,31,1,e5,0⟩] aa8)=>hK _ _ (Am.unset 6 rfl (by kernel_rfl) (Am.forget [5] pg.plOk)) (Dj (e':=[(s,0),(u,0),(x,0),(y,0),(z,aa+(stop:Int).toNat*1),(b4,0),(ji,0)]) (pl':=(DV d r_ m f p g q ad a af ae ag ab ac l)) (fun _ hp=>hp.unset 6 rfl (by kernel_rfl)) ?_)
     refine A2 [2,3,6,7,4,1,0] (by kernel_rfl) (by rfl) (ll b4 ji c9 dj e3 da dk e4 db dl e5 _ _ ?_)
     exact QY _ ⟨_,rfl,w1.kp,pg,c0,ks,kt,ku⟩
   refine Bq (fun W=>∀ (b5:Nat),∀ (dc:Option Addr),∀ (dm:Nat),∀ (e6:List Value),∀ (dd:Option Addr),∀ (dp:Nat),∀ (e7:List Value),∀ (de:Option Addr),∀ (dq:Nat),∀ (e8:List Value),∀ a' w',(∃ (nm:Array Value)(cy:Ad),a' = ⟨nm,[]⟩∧Kn 123 (MO s u x y z aa stop b5) ((tP 13 6 0)::(tA 46 (Au d r_ m f p g q))::(tA 45 [.slice dc x45.tm.length dm,.slice dd x45.turns.length dp,.slice de x45.legs.length dq])::(tA 47 [.func (.func 69) #[] #[]])::(AU x41 l)) nm∧Ah ⟨w,h,Az⟩ cy (MO s u x y z aa stop b5) (CS d r_ m f p g q ad a af ae ag ab ac l) [⟨dc,x45.tm.length,dm,3,1,e6,0⟩,⟨dd,x45.turns.length,dp,3,1,e7,0⟩,⟨de,x45.legs.length,dq,31,1,e8,0⟩] w'∧Ad.le ax cy∧Af cy x45.tm e6∧Af cy x45.turns e7∧Af cy x45.legs e8)→W (MO s u x y z aa stop b5) (CS d r_ m f p g q ad a af ae ag ab ac l) [2,3,7,4,1,0] a' w') ?_ (fun m8=>?_)
   ·
    intro b5 dc dm e6 dd dp e7 de dq e8
    rintro _ aey ⟨nm,cy,rfl,oo,my,c1,kv,kw,kx⟩
    replace ai:=ai.mono c1
    replace aj:=aj.mono c1
    replace ak:=ak.mono c1
    replace a5:=a5.mono c1
    replace a6:=a6.mono c1
    replace a4:=a4.mono c1
    replace ba:=ba.mono c1
    replace ah:=c1 _ _ _ ah
    refine EZ 5 6 rfl rfl (by kernel_rfl) (by decide) (rfl) (rfl) (fun K hK=>?_) (fun K hK=>?_)
    ·
     refine C4 [.agg (Au d r_ m f p g q),.agg [.func (.func 69) #[] #[]]] _ oo my rfl rfl (by decide) (by rfl) rfl (fun _ _=>by kernel_rfl) (Av n my.has r_ ((Aa (Ae ai) (Aa (Aa Ac Ac) (Aa (Ae aj) (Aa (Ae ak) (Aa Ac (Aa Ac (Aa Ac Ac))))))):rep cy r_ _) (Gl.mk (fun(y0:Rg)=>Ap n y0)) (⟨_,_,_,rfl,(show Mt cy (.func (.func 69) #[] #[]) (fun(y0:Rg)=>Ap n y0) from fun h2 w2 hle hh y0 cs0 hy0 r H=>⟨69,_,_,rfl,fun _ _=>by kernel_rfl,Ca n hh y0 hy0 H⟩)⟩:rep cy (Gl.mk (fun(y0:Rg)=>Ap n y0)) _) ex48) fun ad5 sd aa9 ach r0 hn lb=>?_
     replace kv:=kv.mono hn
     replace kw:=kw.mono hn
     replace kx:=kx.mono hn
     replace ah:=hn _ _ _ ah
     obtain⟨iu,j7,q5,iv,j8,q6,iw,j9,q7,rfl,rfl,tq,tr,ts⟩:=r0
     replace lb:Ah ⟨w,h,Az⟩ sd (MO s u x y z aa stop b5) (CS d r_ m f p g q ad a af ae ag ab ac l) [⟨dc,x45.tm.length,dm,3,1,e6,0⟩,⟨dd,x45.turns.length,dp,3,1,e7,0⟩,⟨de,x45.legs.length,dq,31,1,e8,0⟩,⟨iu,x48.tm.length,j7,3,1,q5,0⟩,⟨iv,x48.turns.length,j8,3,1,q6,0⟩,⟨iw,x48.legs.length,j9,31,1,q7,0⟩] aa9:=lb
     refine⟨.one (.agg [.slice iu x48.tm.length j7,.slice iv x48.turns.length j8,.slice iw x48.legs.length j9]),rfl,fun z4 (w4:Kn 123 (MO s u x y z aa stop b5) ((tA 48 [.slice iu x48.tm.length j7,.slice iv x48.turns.length j8,.slice iw x48.legs.length j9])::(tP 13 6 0)::(tA 46 (Au d r_ m f p g q))::(tA 45 [.slice dc x45.tm.length dm,.slice dd x45.turns.length dp,.slice de x45.legs.length dq])::(tA 47 [.func (.func 69) #[] #[]])::(AU x41 l)) z4)=>hK _ _ lb.plOk ?_⟩
     refine A2 [5,2,3,7,4,1,0] (by kernel_rfl) (by rfl) (qe b5 dc dm e6 dd dp e7 de dq e8 iu j7 q5 iv j8 q6 iw j9 q7 _ _ ?_)
     exact QY _ ⟨_,rfl,w4.kp,lb,QU c1 hn,kv,kw,kx,tq,tr,ts⟩
    ·
     refine KS 5 Bf oo my fun jj z5 aba (w5:Kn 123 [(s,0),(u,0),(x,0),(y,0),(z,aa+(stop:Int).toNat*1),(jj,0),(b5,0)] ((tP 12 5 0)::(tP 13 6 0)::(tA 46 (Au d r_ m f p g q))::(tA 45 [.slice dc x45.tm.length dm,.slice dd x45.turns.length dp,.slice de x45.legs.length dq])::(tA 47 [.func (.func 69) #[] #[]])::(AU x41 l)) z5) (ph:Ah ⟨w,h,Az⟩ cy [(s,0),(u,0),(x,0),(y,0),(z,aa+(stop:Int).toNat*1),(jj,0),(b5,0)] (D3 d r_ m f p g q ad a af ae ag ab ac l) [⟨dc,x45.tm.length,dm,3,1,e6,0⟩,⟨dd,x45.turns.length,dp,3,1,e7,0⟩,⟨de,x45.legs.length,dq,31,1,e8,0⟩] aba)=>hK _ _ (Am.unset 5 rfl (by kernel_rfl) (Am.forget [5] ph.plOk)) (Dj (e':=[(s,0),(u,0),(x,0),(y,0),(z,aa+(stop:Int).toNat*1),(jj,0),(b5,0)]) (pl':=(DV d r_ m f p g q ad a af ae ag ab ac l)) (fun _ hp=>hp.unset 5 rfl (by kernel_rfl)) ?_)
     refine A2 [2,3,6,7,4,1,0] (by kernel_rfl) (by rfl) (ll jj b5 dc dm e6 dd dp e7 de dq e8 _ _ ?_)
     exact QY _ ⟨_,rfl,w5.kp,ph,c1,kv,kw,kx⟩
   refine Bq (fun W=>∀ (fs:Nat),∀ (ft:Nat),∀ (g5:Option Addr),∀ (g9:Nat),∀ (lr:List Value),∀ (g6:Option Addr),∀ (ha:Nat),∀ (ls:List Value),∀ (g7:Option Addr),∀ (hb:Nat),∀ (lu:List Value),∀ a' w',(∃ (nn:Array Value)(gf:Ad),a' = ⟨nn,[]⟩∧Kn 123 [(s,0),(u,0),(x,0),(y,0),(z,aa+(stop:Int).toNat*1),(fs,0),(ft,0)] ((tP 13 6 0)::(tP 12 5 0)::(tA 45 [.slice g5 x45.tm.length g9,.slice g6 x45.turns.length ha,.slice g7 x45.legs.length hb])::(tA 47 [.func (.func 69) #[] #[]])::(AU x41 l)) nn∧Ah ⟨w,h,Az⟩ gf [(s,0),(u,0),(x,0),(y,0),(z,aa+(stop:Int).toNat*1),(fs,0),(ft,0)] (D3 d r_ m f p g q ad a af ae ag ab ac l) [⟨g5,x45.tm.length,g9,3,1,lr,0⟩,⟨g6,x45.turns.length,ha,3,1,ls,0⟩,⟨g7,x45.legs.length,hb,31,1,lu,0⟩] w'∧Ad.le ax gf∧Af gf x45.tm lr∧Af gf x45.turns ls∧Af gf x45.legs lu)→W [(s,0),(u,0),(x,0),(y,0),(z,aa+(stop:Int).toNat*1),(fs,0),(ft,0)] (DV d r_ m f p g q ad a af ae ag ab ac l) [2,6,7,4,1,0] a' w') ?_ (fun m9=>?_)
   ·
    intro fs ft g5 g9 lr g6 ha ls g7 hb lu
    rintro _ aez ⟨nn,gf,rfl,w6,mz,o0,tt,tu,tv⟩
    replace ah:=o0 _ _ _ ah
    refine Dl 3 fun K hK=>?_
    refine AV w6 (Am.forget [5] mz.plOk) rfl (by decide) (by kernel_rfl) fun z6 (w7:Kn 123 [(s,0),(u,0),(x,0),(y,0),(z,aa+(stop:Int).toNat*1),(fs,0),(ft,0)] ((tA 46 (Au d r_ m f p g q))::(tP 13 6 0)::(tP 12 5 0)::(tA 45 [.slice g5 x45.tm.length g9,.slice g6 x45.turns.length ha,.slice g7 x45.legs.length hb])::(tA 47 [.func (.func 69) #[] #[]])::(AU x41 l)) z6)=>hK _ _ (Am.forget [5] mz.plOk) ?_
    refine A2 [2,3,6,7,4,1,0] (by kernel_rfl) (by rfl) (ll fs ft g5 g9 lr g6 ha ls g7 hb lu _ _ ?_)
    exact QY _ ⟨_,rfl,w7.kp,mz,o0,tt,tu,tv⟩
   refine Bq (fun W=>∀ (er:Nat),∀ (es:Nat),∀ a' w',(∃ (np:Array Value)(gg:Ad),a' = ⟨np,[]⟩∧Kn 123 [(s,0),(u,0),(x,0),(y,0),(z,aa+(stop:Int).toNat*1),(er,0),(es,0)] ((tP 13 6 0)::(tP 12 5 0)::(tA 46 (Au d r_ m f p g q))::(BB d r_ m f p g q x41 l)) np∧Ah ⟨w,h,Az⟩ gg [(s,0),(u,0),(x,0),(y,0),(z,aa+(stop:Int).toNat*1),(er,0),(es,0)] (D3 d r_ m f p g q ad a af ae ag ab ac l) [] w'∧Ad.le ax gg)→W [(s,0),(u,0),(x,0),(y,0),(z,aa+(stop:Int).toNat*1),(er,0),(es,0)] (DV d r_ m f p g q ad a af ae ag ab ac l) [3,6,7,4,1,0] a' w') ?_ (fun na=>?_)
   ·
    intro er es
    rintro _ ae0 ⟨np,gg,rfl,w8,pi,ho⟩
    replace ai:=ai.mono ho
    replace aj:=aj.mono ho
    replace ak:=ak.mono ho
    replace ah:=ho _ _ _ ah
    refine Dl 2 fun K hK=>?_
    refine C4 (Hm d r_ m f p g q) _ w8 pi rfl rfl (by decide) (by rfl) rfl (fun _ _=>by kernel_rfl) (Av n pi.has r_ ((Aa (Ae ai) (Aa (Aa Ac Ac) (Aa (Ae aj) (Aa (Ae ak) (Aa Ac (Aa Ac (Aa Ac Ac))))))):rep gg r_ _) (Gl.mk (fun(y0:Rg)=>Aj n y0)) (⟨_,_,_,rfl,(show Mt gg (.func (.func 68) #[] #[]) (fun(y0:Rg)=>Aj n y0) from fun h2 w2 hle hh y0 cs0 hy0 r H=>⟨68,_,_,rfl,fun _ _=>by kernel_rfl,AO n hh y0 hy0 H⟩)⟩:rep gg (Gl.mk (fun(y0:Rg)=>Aj n y0)) _) ex45) fun ad6 se abb aci r1 o1 lc=>?_
    replace ah:=o1 _ _ _ ah
    obtain⟨ix,ka,q8,iy,kb,q9,iz,kc,ra,rfl,rfl,tw,tx,ty⟩:=r1
    replace lc:Ah ⟨w,h,Az⟩ se [(s,0),(u,0),(x,0),(y,0),(z,aa+(stop:Int).toNat*1),(er,0),(es,0)] (D3 d r_ m f p g q ad a af ae ag ab ac l) [⟨ix,x45.tm.length,ka,3,1,q8,0⟩,⟨iy,x45.turns.length,kb,3,1,q9,0⟩,⟨iz,x45.legs.length,kc,31,1,ra,0⟩] abb:=lc
    refine⟨.one (.agg [.slice ix x45.tm.length ka,.slice iy x45.turns.length kb,.slice iz x45.legs.length kc]),rfl,fun z7 (xa:Kn 123 [(s,0),(u,0),(x,0),(y,0),(z,aa+(stop:Int).toNat*1),(er,0),(es,0)] ((tA 45 [.slice ix x45.tm.length ka,.slice iy x45.turns.length kb,.slice iz x45.legs.length kc])::(tP 13 6 0)::(tP 12 5 0)::(tA 46 (Au d r_ m f p g q))::(BB d r_ m f p g q x41 l)) z7)=>hK _ _ (Am.forget [5] lc.plOk) ?_⟩
    refine A2 [2,3,6,7,4,1,0] (by kernel_rfl) (by rfl) (ll er es ix ka q8 iy kb q9 iz kc ra _ _ ?_)
    exact QY _ ⟨_,rfl,xa.kp,lc,QU ho o1,tw,tx,ty⟩
   refine Bq (fun W=>∀ (bf:Option Addr),∀ (bl:Nat),∀ (cd:List Value),∀ (bg:Option Addr),∀ (bm:Nat),∀ (ce:List Value),∀ (bh:Option Addr),∀ (bn:Nat),∀ (cf:List Value),∀ a' w',(∃ (nq:Array Value)(cp:Ad),a' = ⟨nq,[]⟩∧Kn 123 (Gd s u x y z aa stop) ((tA 46 (Au d r_ m f p g q))::(tA 45 (Jw bf x45 bl bg bm bh bn))::(tA 47 [.func (.func 69) #[] #[]])::(AU x41 l)) nq∧Ah ⟨w,h,Az⟩ cp (Gd s u x y z aa stop) (Jz d r_ m f p g q ad a af ae ag ab ac l) [⟨bf,x45.tm.length,bl,3,1,cd,0⟩,⟨bg,x45.turns.length,bm,3,1,ce,0⟩,⟨bh,x45.legs.length,bn,31,1,cf,0⟩] w'∧Ad.le ax cp∧Af cp x45.tm cd∧Af cp x45.turns ce∧Af cp x45.legs cf)→W (Gd s u x y z aa stop) (Jz d r_ m f p g q ad a af ae ag ab ac l) [2,3,4,1,0] a' w') ?_ (fun qf=>?_)
   ·
    intro bf bl cd bg bm ce bh bn cf
    rintro _ ae2 ⟨nq,cp,rfl,mm,ld,cb,gj,gk,gl⟩
    replace ai:=ai.mono cb
    replace aj:=aj.mono cb
    replace ak:=ak.mono cb
    replace a5:=a5.mono cb
    replace a6:=a6.mono cb
    replace a4:=a4.mono cb
    replace ba:=ba.mono cb
    replace ah:=cb _ _ _ ah
    refine FD 5 6 7 rfl rfl rfl (by kernel_rfl) (by decide) (rfl) (rfl) (rfl) (fun K hK=>?_) (fun K hK=>?_) (fun K hK=>?_)
    ·
     refine C4 [.agg (Au d r_ m f p g q),.agg [.func (.func 69) #[] #[]]] _ mm ld rfl rfl (by decide) (by rfl) rfl (fun _ _=>by kernel_rfl) (Av n ld.has r_ ((Aa (Ae ai) (Aa (Aa Ac Ac) (Aa (Ae aj) (Aa (Ae ak) (Aa Ac (Aa Ac (Aa Ac Ac))))))):rep cp r_ _) (Gl.mk (fun(y0:Rg)=>Ap n y0)) (⟨_,_,_,rfl,(show Mt cp (.func (.func 69) #[] #[]) (fun(y0:Rg)=>Ap n y0) from fun h2 w2 hle hh y0 cs0 hy0 r H=>⟨69,_,_,rfl,fun _ _=>by kernel_rfl,Ca n hh y0 hy0 H⟩)⟩:rep cp (Gl.mk (fun(y0:Rg)=>Ap n y0)) _) ex48) fun ad7 lw abc acj r2 go hs=>?_
     replace gj:=gj.mono go
     replace gk:=gk.mono go
     replace gl:=gl.mono go
     replace ah:=go _ _ _ ah
     obtain⟨df,dr,ia,dg,ds,ib,dh,dt,ic,rfl,rfl,n9,oa,ob⟩:=r2
     replace hs:Ah ⟨w,h,Az⟩ lw (Gd s u x y z aa stop) (Jz d r_ m f p g q ad a af ae ag ab ac l) [⟨bf,x45.tm.length,bl,3,1,cd,0⟩,⟨bg,x45.turns.length,bm,3,1,ce,0⟩,⟨bh,x45.legs.length,bn,31,1,cf,0⟩,⟨df,x48.tm.length,dr,3,1,ia,0⟩,⟨dg,x48.turns.length,ds,3,1,ib,0⟩,⟨dh,x48.legs.length,dt,31,1,ic,0⟩] abc:=hs
     refine⟨.one (.agg [.slice df x48.tm.length dr,.slice dg x48.turns.length ds,.slice dh x48.legs.length dt]),rfl,fun z8 (op:Kn 123 (Gd s u x y z aa stop) ((tA 48 [.slice df x48.tm.length dr,.slice dg x48.turns.length ds,.slice dh x48.legs.length dt])::(tA 46 (Au d r_ m f p g q))::(tA 45 (Jw bf x45 bl bg bm bh bn))::(tA 47 [.func (.func 69) #[] #[]])::(AU x41 l)) z8)=>hK _ _ hs.plOk ?_⟩
     refine EZ 6 7 rfl rfl (by kernel_rfl) (by decide) (rfl) (rfl) (fun K hK=>?_) (fun K hK=>?_)
     ·
      refine KS 5 Bf op hs fun jk z9 abd (xd:Kn 123 [(s,0),(u,0),(x,0),(y,0),(z,aa+(stop:Int).toNat*1),(jk,0),(0,0)] ((tP 12 5 0)::(tA 48 [.slice df x48.tm.length dr,.slice dg x48.turns.length ds,.slice dh x48.legs.length dt])::(tA 46 (Au d r_ m f p g q))::(tA 45 (Jw bf x45 bl bg bm bh bn))::(tA 47 [.func (.func 69) #[] #[]])::(AU x41 l)) z9) (pk:Ah ⟨w,h,Az⟩ lw [(s,0),(u,0),(x,0),(y,0),(z,aa+(stop:Int).toNat*1),(jk,0),(0,0)] (Fh d r_ m f p g q ad a af ae ag ab ac l) [⟨bf,x45.tm.length,bl,3,1,cd,0⟩,⟨bg,x45.turns.length,bm,3,1,ce,0⟩,⟨bh,x45.legs.length,bn,31,1,cf,0⟩,⟨df,x48.tm.length,dr,3,1,ia,0⟩,⟨dg,x48.turns.length,ds,3,1,ib,0⟩,⟨dh,x48.legs.length,dt,31,1,ic,0⟩] abd)=>hK _ _ (Am.unset 5 rfl (by kernel_rfl) (Am.forget [5] pk.plOk)) (Dj (e':=[(s,0),(u,0),(x,0),(y,0),(z,aa+(stop:Int).toNat*1),(jk,0),(0,0)]) (pl':=(Gx d r_ m f p g q ad a af ae ag ab ac l)) (fun _ hp=>hp.unset 5 rfl (by kernel_rfl)) ?_)
      refine A2 [5,2,3,6,4,1,0] (by kernel_rfl) (by rfl) (qd jk bf bl cd bg bm ce bh bn cf df dr ia dg ds ib dh dt ic _ _ ?_)
      exact QY _ ⟨_,rfl,xd.kp,pk,QU cb go,gj,gk,gl,n9,oa,ob⟩
     ·
      refine KS 6 Bf op hs fun jl aaa abe (xe:Kn 123 [(s,0),(u,0),(x,0),(y,0),(z,aa+(stop:Int).toNat*1),(0,0),(jl,0)] ((tP 13 6 0)::(tA 48 [.slice df x48.tm.length dr,.slice dg x48.turns.length ds,.slice dh x48.legs.length dt])::(tA 46 (Au d r_ m f p g q))::(tA 45 (Jw bf x45 bl bg bm bh bn))::(tA 47 [.func (.func 69) #[] #[]])::(AU x41 l)) aaa) (pl:Ah ⟨w,h,Az⟩ lw [(s,0),(u,0),(x,0),(y,0),(z,aa+(stop:Int).toNat*1),(0,0),(jl,0)] (CS d r_ m f p g q ad a af ae ag ab ac l) [⟨bf,x45.tm.length,bl,3,1,cd,0⟩,⟨bg,x45.turns.length,bm,3,1,ce,0⟩,⟨bh,x45.legs.length,bn,31,1,cf,0⟩,⟨df,x48.tm.length,dr,3,1,ia,0⟩,⟨dg,x48.turns.length,ds,3,1,ib,0⟩,⟨dh,x48.legs.length,dt,31,1,ic,0⟩] abe)=>hK _ _ (Am.unset 6 rfl (by kernel_rfl) pl.plOk) (Dj (e':=[(s,0),(u,0),(x,0),(y,0),(z,aa+(stop:Int).toNat*1),(0,0),(jl,0)]) (pl':=(CS d r_ m f p g q ad a af ae ag ab ac l)) (fun _ hp=>hp.unset 6 rfl (by kernel_rfl)) ?_)
      refine A2 [5,2,3,7,4,1,0] (by kernel_rfl) (by rfl) (qe jl bf bl cd bg bm ce bh bn cf df dr ia dg ds ib dh dt ic _ _ ?_)
      exact QY _ ⟨_,rfl,xe.kp,pl,QU cb go,gj,gk,gl,n9,oa,ob⟩
    ·
     refine KS 5 Bf mm ld fun jm aab abf (xf:Kn 123 [(s,0),(u,0),(x,0),(y,0),(z,aa+(stop:Int).toNat*1),(jm,0),(0,0)] ((tP 12 5 0)::(tA 46 (Au d r_ m f p g q))::(tA 45 (Jw bf x45 bl bg bm bh bn))::(tA 47 [.func (.func 69) #[] #[]])::(AU x41 l)) aab) (pm:Ah ⟨w,h,Az⟩ cp [(s,0),(u,0),(x,0),(y,0),(z,aa+(stop:Int).toNat*1),(jm,0),(0,0)] (Fh d r_ m f p g q ad a af ae ag ab ac l) [⟨bf,x45.tm.length,bl,3,1,cd,0⟩,⟨bg,x45.turns.length,bm,3,1,ce,0⟩,⟨bh,x45.legs.length,bn,31,1,cf,0⟩] abf)=>hK _ _ (Am.unset 5 rfl (by kernel_rfl) (Am.forget [5] pm.plOk)) (Dj (e':=[(s,0),(u,0),(x,0),(y,0),(z,aa+(stop:Int).toNat*1),(jm,0),(0,0)]) (pl':=(Gx d r_ m f p g q ad a af ae ag ab ac l)) (fun _ hp=>hp.unset 5 rfl (by kernel_rfl)) ?_)
     refine A2 [2,3,6,4,1,0] (by kernel_rfl) (by rfl) (m7 jm bf bl cd bg bm ce bh bn cf _ _ ?_)
     exact QY _ ⟨_,rfl,xf.kp,pm,cb,gj,gk,gl⟩
    ·
     refine KS 6 Bf mm ld fun jn aac abg (xg:Kn 123 [(s,0),(u,0),(x,0),(y,0),(z,aa+(stop:Int).toNat*1),(0,0),(jn,0)] ((tP 13 6 0)::(tA 46 (Au d r_ m f p g q))::(tA 45 (Jw bf x45 bl bg bm bh bn))::(tA 47 [.func (.func 69) #[] #[]])::(AU x41 l)) aac) (pn:Ah ⟨w,h,Az⟩ cp [(s,0),(u,0),(x,0),(y,0),(z,aa+(stop:Int).toNat*1),(0,0),(jn,0)] (CS d r_ m f p g q ad a af ae ag ab ac l) [⟨bf,x45.tm.length,bl,3,1,cd,0⟩,⟨bg,x45.turns.length,bm,3,1,ce,0⟩,⟨bh,x45.legs.length,bn,31,1,cf,0⟩] abg)=>hK _ _ (Am.unset 6 rfl (by kernel_rfl) pn.plOk) (Dj (e':=[(s,0),(u,0),(x,0),(y,0),(z,aa+(stop:Int).toNat*1),(0,0),(jn,0)]) (pl':=(CS d r_ m f p g q ad a af ae ag ab ac l)) (fun _ hp=>hp.unset 6 rfl (by kernel_rfl)) ?_)
     refine A2 [2,3,7,4,1,0] (by kernel_rfl) (by rfl) (m8 jn bf bl cd bg bm ce bh bn cf _ _ ?_)
     exact QY _ ⟨_,rfl,xg.kp,pn,cb,gj,gk,gl⟩
   refine Bq (fun W=>∀ (ct:Nat),∀ (d0:Option Addr),∀ (d9:Nat),∀ (gw:List Value),∀ (d1:Option Addr),∀ (ea:Nat),∀ (gx:List Value),∀ (d2:Option Addr),∀ (eb:Nat),∀ (gy:List Value),∀ a' w',(∃ (nr:Array Value)(eu:Ad),a' = ⟨nr,[]⟩∧Kn 123 [(s,0),(u,0),(x,0),(y,0),(z,aa+(stop:Int).toNat*1),(ct,0),(0,0)] ((tP 12 5 0)::(tA 45 [.slice d0 x45.tm.length d9,.slice d1 x45.turns.length ea,.slice d2 x45.legs.length eb])::(tA 47 [.func (.func 69) #[] #[]])::(AU x41 l)) nr∧Ah ⟨w,h,Az⟩ eu [(s,0),(u,0),(x,0),(y,0),(z,aa+(stop:Int).toNat*1),(ct,0),(0,0)] (Fh d r_ m f p g q ad a af ae ag ab ac l) [⟨d0,x45.tm.length,d9,3,1,gw,0⟩,⟨d1,x45.turns.length,ea,3,1,gx,0⟩,⟨d2,x45.legs.length,eb,31,1,gy,0⟩] w'∧Ad.le ax eu∧Af eu x45.tm gw∧Af eu x45.turns gx∧Af eu x45.legs gy)→W [(s,0),(u,0),(x,0),(y,0),(z,aa+(stop:Int).toNat*1),(ct,0),(0,0)] (Gx d r_ m f p g q ad a af ae ag ab ac l) [2,6,4,1,0] a' w') ?_ (fun qg=>?_)
   ·
    intro ct d0 d9 gw d1 ea gx d2 eb gy
    rintro _ ae3 ⟨nr,eu,rfl,oq,lf,ms,oc,od,oe⟩
    replace ah:=ms _ _ _ ah
    refine EZ 3 7 rfl rfl (by kernel_rfl) (by decide) (rfl) (rfl) (fun K hK=>?_) (fun K hK=>?_)
    ·
     refine AV oq (Am.forget [5] lf.plOk) rfl (by decide) (by kernel_rfl) fun aad (xi:Kn 123 [(s,0),(u,0),(x,0),(y,0),(z,aa+(stop:Int).toNat*1),(ct,0),(0,0)] ((tA 46 (Au d r_ m f p g q))::(tP 12 5 0)::(tA 45 [.slice d0 x45.tm.length d9,.slice d1 x45.turns.length ea,.slice d2 x45.legs.length eb])::(tA 47 [.func (.func 69) #[] #[]])::(AU x41 l)) aad)=>hK _ _ (Am.forget [5] lf.plOk) ?_
     refine A2 [2,3,6,4,1,0] (by kernel_rfl) (by rfl) (m7 ct d0 d9 gw d1 ea gx d2 eb gy _ _ ?_)
     exact QY _ ⟨_,rfl,xi.kp,lf,ms,oc,od,oe⟩
    ·
     refine KS 6 Bf oq lf fun jo aae abh (xj:Kn 123 [(s,0),(u,0),(x,0),(y,0),(z,aa+(stop:Int).toNat*1),(ct,0),(jo,0)] ((tP 13 6 0)::(tP 12 5 0)::(tA 45 [.slice d0 x45.tm.length d9,.slice d1 x45.turns.length ea,.slice d2 x45.legs.length eb])::(tA 47 [.func (.func 69) #[] #[]])::(AU x41 l)) aae) (po:Ah ⟨w,h,Az⟩ eu [(s,0),(u,0),(x,0),(y,0),(z,aa+(stop:Int).toNat*1),(ct,0),(jo,0)] (D3 d r_ m f p g q ad a af ae ag ab ac l) [⟨d0,x45.tm.length,d9,3,1,gw,0⟩,⟨d1,x45.turns.length,ea,3,1,gx,0⟩,⟨d2,x45.legs.length,eb,31,1,gy,0⟩] abh)=>hK _ _ (Am.unset 6 rfl (by kernel_rfl) (Am.forget [5] po.plOk)) (Dj (e':=[(s,0),(u,0),(x,0),(y,0),(z,aa+(stop:Int).toNat*1),(ct,0),(jo,0)]) (pl':=(DV d r_ m f p g q ad a af ae ag ab ac l)) (fun _ hp=>hp.unset 6 rfl (by kernel_rfl)) ?_)
     refine A2 [2,6,7,4,1,0] (by kernel_rfl) (by rfl) (m9 ct jo d0 d9 gw d1 ea gx d2 eb gy _ _ ?_)
     exact QY _ ⟨_,rfl,xj.kp,po,ms,oc,od,oe⟩
   refine Bq (fun W=>∀ (cu:Nat),∀ (d3:Option Addr),∀ (ec:Nat),∀ (gz:List Value),∀ (d4:Option Addr),∀ (ed:Nat),∀ (g0:List Value),∀ (d5:Option Addr),∀ (ee:Nat),∀ (g1:List Value),∀ a' w',(∃ (ns:Array Value)(ev:Ad),a' = ⟨ns,[]⟩∧Kn 123 [(s,0),(u,0),(x,0),(y,0),(z,aa+(stop:Int).toNat*1),(0,0),(cu,0)] ((tP 13 6 0)::(tA 45 [.slice d3 x45.tm.length ec,.slice d4 x45.turns.length ed,.slice d5 x45.legs.length ee])::(tA 47 [.func (.func 69) #[] #[]])::(AU x41 l)) ns∧Ah ⟨w,h,Az⟩ ev [(s,0),(u,0),(x,0),(y,0),(z,aa+(stop:Int).toNat*1),(0,0),(cu,0)] (CS d r_ m f p g q ad a af ae ag ab ac l) [⟨d3,x45.tm.length,ec,3,1,gz,0⟩,⟨d4,x45.turns.length,ed,3,1,g0,0⟩,⟨d5,x45.legs.length,ee,31,1,g1,0⟩] w'∧Ad.le ax ev∧Af ev x45.tm gz∧Af ev x45.turns g0∧Af ev x45.legs g1)→W [(s,0),(u,0),(x,0),(y,0),(z,aa+(stop:Int).toNat*1),(0,0),(cu,0)] (CS d r_ m f p g q ad a af ae ag ab ac l) [2,7,4,1,0] a' w') ?_ (fun qh=>?_)
   ·
    intro cu d3 ec gz d4 ed g0 d5 ee g1
    rintro _ ae5 ⟨ns,ev,rfl,os,lg,mt,og,oh,oi⟩
    replace ah:=mt _ _ _ ah
    refine EZ 3 6 rfl rfl (by kernel_rfl) (by decide) (rfl) (rfl) (fun K hK=>?_) (fun K hK=>?_)
    ·
     refine AV os lg.plOk rfl (by decide) (by kernel_rfl) fun aaf (xl:Kn 123 [(s,0),(u,0),(x,0),(y,0),(z,aa+(stop:Int).toNat*1),(0,0),(cu,0)] ((tA 46 (Au d r_ m f p g q))::(tP 13 6 0)::(tA 45 [.slice d3 x45.tm.length ec,.slice d4 x45.turns.length ed,.slice d5 x45.legs.length ee])::(tA 47 [.func (.func 69) #[] #[]])::(AU x41 l)) aaf)=>hK _ _ lg.plOk ?_
     refine A2 [2,3,7,4,1,0] (by kernel_rfl) (by rfl) (m8 cu d3 ec gz d4 ed g0 d5 ee g1 _ _ ?_)
     exact QY _ ⟨_,rfl,xl.kp,lg,mt,og,oh,oi⟩
    ·
     refine KS 5 Bf os lg fun jp aag abi (xm:Kn 123 [(s,0),(u,0),(x,0),(y,0),(z,aa+(stop:Int).toNat*1),(jp,0),(cu,0)] ((tP 12 5 0)::(tP 13 6 0)::(tA 45 [.slice d3 x45.tm.length ec,.slice d4 x45.turns.length ed,.slice d5 x45.legs.length ee])::(tA 47 [.func (.func 69) #[] #[]])::(AU x41 l)) aag) (pp:Ah ⟨w,h,Az⟩ ev [(s,0),(u,0),(x,0),(y,0),(z,aa+(stop:Int).toNat*1),(jp,0),(cu,0)] (D3 d r_ m f p g q ad a af ae ag ab ac l) [⟨d3,x45.tm.length,ec,3,1,gz,0⟩,⟨d4,x45.turns.length,ed,3,1,g0,0⟩,⟨d5,x45.legs.length,ee,31,1,g1,0⟩] abi)=>hK _ _ (Am.unset 5 rfl (by kernel_rfl) (Am.forget [5] pp.plOk)) (Dj (e':=[(s,0),(u,0),(x,0),(y,0),(z,aa+(stop:Int).toNat*1),(jp,0),(cu,0)]) (pl':=(DV d r_ m f p g q ad a af ae ag ab ac l)) (fun _ hp=>hp.unset 5 rfl (by kernel_rfl)) ?_)
     refine A2 [2,6,7,4,1,0] (by kernel_rfl) (by rfl) (m9 jp cu d3 ec gz d4 ed g0 d5 ee g1 _ _ ?_)
     exact QY _ ⟨_,rfl,xm.kp,pp,mt,og,oh,oi⟩
   refine Bq (fun W=>∀ (b6:Nat),∀ a' w',(∃ (nt:Array Value)(ew:Ad),a' = ⟨nt,[]⟩∧Kn 123 (MP s u x y z aa stop b6) ((tP 12 5 0)::(tA 46 (Au d r_ m f p g q))::(BB d r_ m f p g q x41 l)) nt∧Ah ⟨w,h,Az⟩ ew (MP s u x y z aa stop b6) (Fh d r_ m f p g q ad a af ae ag ab ac l) [] w'∧Ad.le ax ew)→W (MP s u x y z aa stop b6) (Gx d r_ m f p g q ad a af ae ag ab ac l) [3,6,4,1,0] a' w') ?_ (fun qi=>?_)
   ·
    intro b6
    rintro _ ae6 ⟨nt,ew,rfl,ot,m0,c2⟩
    replace ai:=ai.mono c2
    replace aj:=aj.mono c2
    replace ak:=ak.mono c2
    replace a5:=a5.mono c2
    replace a6:=a6.mono c2
    replace a4:=a4.mono c2
    replace ba:=ba.mono c2
    replace ah:=c2 _ _ _ ah
    refine EZ 2 7 rfl rfl (by kernel_rfl) (by decide) (rfl) (rfl) (fun K hK=>?_) (fun K hK=>?_)
    ·
     refine C4 (Hm d r_ m f p g q) _ ot m0 rfl rfl (by decide) (by rfl) rfl (fun _ _=>by kernel_rfl) (Av n m0.has r_ ((Aa (Ae ai) (Aa (Aa Ac Ac) (Aa (Ae aj) (Aa (Ae ak) (Aa Ac (Aa Ac (Aa Ac Ac))))))):rep ew r_ _) (Gl.mk (fun(y0:Rg)=>Aj n y0)) (⟨_,_,_,rfl,(show Mt ew (.func (.func 68) #[] #[]) (fun(y0:Rg)=>Aj n y0) from fun h2 w2 hle hh y0 cs0 hy0 r H=>⟨68,_,_,rfl,fun _ _=>by kernel_rfl,AO n hh y0 hy0 H⟩)⟩:rep ew (Gl.mk (fun(y0:Rg)=>Aj n y0)) _) ex45) fun ad8 sf abj ack r3 o2 lh=>?_
     replace ah:=o2 _ _ _ ah
     obtain⟨i0,kd,rb,i1,ke,rc,i2,kf,rd,rfl,rfl,tz,t0,t1⟩:=r3
     replace lh:Ah ⟨w,h,Az⟩ sf (MP s u x y z aa stop b6) (Fh d r_ m f p g q ad a af ae ag ab ac l) [⟨i0,x45.tm.length,kd,3,1,rb,0⟩,⟨i1,x45.turns.length,ke,3,1,rc,0⟩,⟨i2,x45.legs.length,kf,31,1,rd,0⟩] abj:=lh
     refine⟨.one (.agg [.slice i0 x45.tm.length kd,.slice i1 x45.turns.length ke,.slice i2 x45.legs.length kf]),rfl,fun aah (xo:Kn 123 (MP s u x y z aa stop b6) ((tA 45 [.slice i0 x45.tm.length kd,.slice i1 x45.turns.length ke,.slice i2 x45.legs.length kf])::(tP 12 5 0)::(tA 46 (Au d r_ m f p g q))::(BB d r_ m f p g q x41 l)) aah)=>hK _ _ (Am.forget [5] lh.plOk) ?_⟩
     refine A2 [2,3,6,4,1,0] (by kernel_rfl) (by rfl) (m7 b6 i0 kd rb i1 ke rc i2 kf rd _ _ ?_)
     exact QY _ ⟨_,rfl,xo.kp,lh,QU c2 o2,tz,t0,t1⟩
    ·
     refine KS 6 Bf ot m0 fun jq aai abk (xp:Kn 123 [(s,0),(u,0),(x,0),(y,0),(z,aa+(stop:Int).toNat*1),(b6,0),(jq,0)] ((tP 13 6 0)::(tP 12 5 0)::(tA 46 (Au d r_ m f p g q))::(BB d r_ m f p g q x41 l)) aai) (pq:Ah ⟨w,h,Az⟩ ew [(s,0),(u,0),(x,0),(y,0),(z,aa+(stop:Int).toNat*1),(b6,0),(jq,0)] (D3 d r_ m f p g q ad a af ae ag ab ac l) [] abk)=>hK _ _ (Am.unset 6 rfl (by kernel_rfl) (Am.forget [5] pq.plOk)) (Dj (e':=[(s,0),(u,0),(x,0),(y,0),(z,aa+(stop:Int).toNat*1),(b6,0),(jq,0)]) (pl':=(DV d r_ m f p g q ad a af ae ag ab ac l)) (fun _ hp=>hp.unset 6 rfl (by kernel_rfl)) ?_)
     refine A2 [3,6,7,4,1,0] (by kernel_rfl) (by rfl) (na b6 jq _ _ ?_)
     exact QY _ ⟨_,rfl,xp.kp,pq,c2⟩
   refine Bq (fun W=>∀ (b7:Nat),∀ a' w',(∃ (nu:Array Value)(ex:Ad),a' = ⟨nu,[]⟩∧Kn 123 (MQ s u x y z aa stop b7) ((tP 13 6 0)::(tA 46 (Au d r_ m f p g q))::(BB d r_ m f p g q x41 l)) nu∧Ah ⟨w,h,Az⟩ ex (MQ s u x y z aa stop b7) (CS d r_ m f p g q ad a af ae ag ab ac l) [] w'∧Ad.le ax ex)→W (MQ s u x y z aa stop b7) (CS d r_ m f p g q ad a af ae ag ab ac l) [3,7,4,1,0] a' w') ?_ (fun qj=>?_)
   ·
    intro b7
    rintro _ ae8 ⟨nu,ex,rfl,ou,m2,c3⟩
    replace ai:=ai.mono c3
    replace aj:=aj.mono c3
    replace ak:=ak.mono c3
    replace a5:=a5.mono c3
    replace a6:=a6.mono c3
    replace a4:=a4.mono c3
    replace ba:=ba.mono c3
    replace ah:=c3 _ _ _ ah
    refine EZ 2 6 rfl rfl (by kernel_rfl) (by decide) (rfl) (rfl) (fun K hK=>?_) (fun K hK=>?_)
    ·
     refine C4 (Hm d r_ m f p g q) _ ou m2 rfl rfl (by decide) (by rfl) rfl (fun _ _=>by kernel_rfl) (Av n m2.has r_ ((Aa (Ae ai) (Aa (Aa Ac Ac) (Aa (Ae aj) (Aa (Ae ak) (Aa Ac (Aa Ac (Aa Ac Ac))))))):rep ex r_ _) (Gl.mk (fun(y0:Rg)=>Aj n y0)) (⟨_,_,_,rfl,(show Mt ex (.func (.func 68) #[] #[]) (fun(y0:Rg)=>Aj n y0) from fun h2 w2 hle hh y0 cs0 hy0 r H=>⟨68,_,_,rfl,fun _ _=>by kernel_rfl,AO n hh y0 hy0 H⟩)⟩:rep ex (Gl.mk (fun(y0:Rg)=>Aj n y0)) _) ex45) fun ad9 sg abl acl r4 o3 li=>?_
     replace ah:=o3 _ _ _ ah
     obtain⟨i3,kg,re,i4,kh,rf,i5,ki,rg,rfl,rfl,t2,t3,t4⟩:=r4
     replace li:Ah ⟨w,h,Az⟩ sg (MQ s u x y z aa stop b7) (CS d r_ m f p g q ad a af ae ag ab ac l) [⟨i3,x45.tm.length,kg,3,1,re,0⟩,⟨i4,x45.turns.length,kh,3,1,rf,0⟩,⟨i5,x45.legs.length,ki,31,1,rg,0⟩] abl:=li
     refine⟨.one (.agg [.slice i3 x45.tm.length kg,.slice i4 x45.turns.length kh,.slice i5 x45.legs.length ki]),rfl,fun aaj (xs:Kn 123 (MQ s u x y z aa stop b7) ((tA 45 [.slice i3 x45.tm.length kg,.slice i4 x45.turns.length kh,.slice i5 x45.legs.length ki])::(tP 13 6 0)::(tA 46 (Au d r_ m f p g q))::(BB d r_ m f p g q x41 l)) aaj)=>hK _ _ li.plOk ?_⟩
     refine A2 [2,3,7,4,1,0] (by kernel_rfl) (by rfl) (m8 b7 i3 kg re i4 kh rf i5 ki rg _ _ ?_)
     exact QY _ ⟨_,rfl,xs.kp,li,QU c3 o3,t2,t3,t4⟩
    ·
     refine KS 5 Bf ou m2 fun jr aak abm (xt:Kn 123 [(s,0),(u,0),(x,0),(y,0),(z,aa+(stop:Int).toNat*1),(jr,0),(b7,0)] ((tP 12 5 0)::(tP 13 6 0)::(tA 46 (Au d r_ m f p g q))::(BB d r_ m f p g q x41 l)) aak) (pr:Ah ⟨w,h,Az⟩ ex [(s,0),(u,0),(x,0),(y,0),(z,aa+(stop:Int).toNat*1),(jr,0),(b7,0)] (D3 d r_ m f p g q ad a af ae ag ab ac l) [] abm)=>hK _ _ (Am.unset 5 rfl (by kernel_rfl) (Am.forget [5] pr.plOk)) (Dj (e':=[(s,0),(u,0),(x,0),(y,0),(z,aa+(stop:Int).toNat*1),(jr,0),(b7,0)]) (pl':=(DV d r_ m f p g q ad a af ae ag ab ac l)) (fun _ hp=>hp.unset 5 rfl (by kernel_rfl)) ?_)
     refine A2 [3,6,7,4,1,0] (by kernel_rfl) (by rfl) (na jr b7 _ _ ?_)
     exact QY _ ⟨_,rfl,xt.kp,pr,c3⟩
   refine Bq (fun W=>∀ (cj:Nat),∀ (ck:Nat),∀ a' w',(∃ (nv:Array Value)(gh:Ad),a' = ⟨nv,[]⟩∧Kn 123 (Jx s u x y z aa stop cj ck) ((tP 13 6 0)::(tP 12 5 0)::(BB d r_ m f p g q x41 l)) nv∧Ah ⟨w,h,Az⟩ gh (Jx s u x y z aa stop cj ck) (D3 d r_ m f p g q ad a af ae ag ab ac l) [] w'∧Ad.le ax gh)→W (Jx s u x y z aa stop cj ck) (DV d r_ m f p g q ad a af ae ag ab ac l) [6,7,4,1,0] a' w') ?_ (fun qk=>?_)
   ·
    intro cj ck
    rintro _ ae9 ⟨nv,gh,rfl,ov,ht,c4⟩
    replace ai:=ai.mono c4
    replace aj:=aj.mono c4
    replace ak:=ak.mono c4
    replace a5:=a5.mono c4
    replace a6:=a6.mono c4
    replace a4:=a4.mono c4
    replace ba:=ba.mono c4
    replace ah:=c4 _ _ _ ah
    refine EZ 2 3 rfl rfl (by kernel_rfl) (by decide) (rfl) (rfl) (fun K hK=>?_) (fun K hK=>?_)
    ·
     refine C4 (Hm d r_ m f p g q) _ ov ht rfl rfl (by decide) (by rfl) rfl (fun _ _=>by kernel_rfl) (Av n ht.has r_ ((Aa (Ae ai) (Aa (Aa Ac Ac) (Aa (Ae aj) (Aa (Ae ak) (Aa Ac (Aa Ac (Aa Ac Ac))))))):rep gh r_ _) (Gl.mk (fun(y0:Rg)=>Aj n y0)) (⟨_,_,_,rfl,(show Mt gh (.func (.func 68) #[] #[]) (fun(y0:Rg)=>Aj n y0) from fun h2 w2 hle hh y0 cs0 hy0 r H=>⟨68,_,_,rfl,fun _ _=>by kernel_rfl,AO n hh y0 hy0 H⟩)⟩:rep gh (Gl.mk (fun(y0:Rg)=>Aj n y0)) _) ex45) fun aeb si abn acm r5 o4 lj=>?_
     replace ah:=o4 _ _ _ ah
     obtain⟨i6,kj,rh,i7,kk,ri,i8,kl,rj,rfl,rfl,t5,t6,t7⟩:=r5
     replace lj:Ah ⟨w,h,Az⟩ si (Jx s u x y z aa stop cj ck) (D3 d r_ m f p g q ad a af ae ag ab ac l) [⟨i6,x45.tm.length,kj,3,1,rh,0⟩,⟨i7,x45.turns.length,kk,3,1,ri,0⟩,⟨i8,x45.legs.length,kl,31,1,rj,0⟩] abn:=lj
     refine⟨.one (.agg [.slice i6 x45.tm.length kj,.slice i7 x45.turns.length kk,.slice i8 x45.legs.length kl]),rfl,fun aal (xu:Kn 123 (Jx s u x y z aa stop cj ck) ((tA 45 [.slice i6 x45.tm.length kj,.slice i7 x45.turns.length kk,.slice i8 x45.legs.length kl])::(tP 13 6 0)::(tP 12 5 0)::(BB d r_ m f p g q x41 l)) aal)=>hK _ _ (Am.forget [5] lj.plOk) ?_⟩
     refine A2 [2,6,7,4,1,0] (by kernel_rfl) (by rfl) (m9 cj ck i6 kj rh i7 kk ri i8 kl rj _ _ ?_)
     exact QY _ ⟨_,rfl,xu.kp,lj,QU c4 o4,t5,t6,t7⟩
    ·
     refine AV ov (Am.forget [5] ht.plOk) rfl (by decide) (by kernel_rfl) fun aam (xv:Kn 123 (Jx s u x y z aa stop cj ck) ((tA 46 (Au d r_ m f p g q))::(tP 13 6 0)::(tP 12 5 0)::(BB d r_ m f p g q x41 l)) aam)=>hK _ _ (Am.forget [5] ht.plOk) ?_
     refine A2 [3,6,7,4,1,0] (by kernel_rfl) (by rfl) (na cj ck _ _ ?_)
     exact QY _ ⟨_,rfl,xv.kp,ht,c4⟩
   refine P9 2 3 6 7 rfl rfl rfl rfl (by kernel_rfl) (by decide) (rfl) (rfl) (rfl) (rfl) (fun K hK=>?_) (fun K hK=>?_) (fun K hK=>?_) (fun K hK=>?_)
   ·
    refine C4 (Hm d r_ m f p g q) _ ky c5 rfl rfl (by decide) (by rfl) rfl (fun _ _=>by kernel_rfl) (Av n c5.has r_ ((Aa (Ae ai) (Aa (Aa Ac Ac) (Aa (Ae aj) (Aa (Ae ak) (Aa Ac (Aa Ac (Aa Ac Ac))))))):rep ax r_ _) (Gl.mk (fun(y0:Rg)=>Aj n y0)) (⟨_,_,_,rfl,(show Mt ax (.func (.func 68) #[] #[]) (fun(y0:Rg)=>Aj n y0) from fun h2 w2 hle hh y0 cs0 hy0 r H=>⟨68,_,_,rfl,fun _ _=>by kernel_rfl,AO n hh y0 hy0 H⟩)⟩:rep ax (Gl.mk (fun(y0:Rg)=>Aj n y0)) _) ex45) fun aec lx abo acn r7 k2 em=>?_
    replace ah:=k2 _ _ _ ah
    obtain⟨cg,cl,g2,ch,cm,g3,ci,cn,g4,rfl,rfl,ma,mb,mc⟩:=r7
    replace em:Ah ⟨w,h,Az⟩ lx (Gd s u x y z aa stop) (Jz d r_ m f p g q ad a af ae ag ab ac l) [⟨cg,x45.tm.length,cl,3,1,g2,0⟩,⟨ch,x45.turns.length,cm,3,1,g3,0⟩,⟨ci,x45.legs.length,cn,31,1,g4,0⟩] abo:=em
    refine⟨.one (.agg [.slice cg x45.tm.length cl,.slice ch x45.turns.length cm,.slice ci x45.legs.length cn]),rfl,fun aan (mn:Kn 123 (Gd s u x y z aa stop) ((tA 45 [.slice cg x45.tm.length cl,.slice ch x45.turns.length cm,.slice ci x45.legs.length cn])::(BB d r_ m f p g q x41 l)) aan)=>hK _ _ em.plOk ?_⟩
    refine FD 3 6 7 rfl rfl rfl (by kernel_rfl) (by decide) (rfl) (rfl) (rfl) (fun K hK=>?_) (fun K hK=>?_) (fun K hK=>?_)
    ·
     refine AV mn em.plOk rfl (by decide) (by kernel_rfl) fun aao (xw:Kn 123 (Gd s u x y z aa stop) ((tA 46 (Au d r_ m f p g q))::(tA 45 [.slice cg x45.tm.length cl,.slice ch x45.turns.length cm,.slice ci x45.legs.length cn])::(BB d r_ m f p g q x41 l)) aao)=>hK _ _ em.plOk ?_
     refine A2 [2,3,4,1,0] (by kernel_rfl) (by rfl) (qf cg cl g2 ch cm g3 ci cn g4 _ _ ?_)
     exact QY _ ⟨_,rfl,xw.kp,em,k2,ma,mb,mc⟩
    ·
     refine KS 5 Bf mn em fun js aap abp (xx:Kn 123 [(s,0),(u,0),(x,0),(y,0),(z,aa+(stop:Int).toNat*1),(js,0),(0,0)] ((tP 12 5 0)::(tA 45 [.slice cg x45.tm.length cl,.slice ch x45.turns.length cm,.slice ci x45.legs.length cn])::(BB d r_ m f p g q x41 l)) aap) (pt:Ah ⟨w,h,Az⟩ lx [(s,0),(u,0),(x,0),(y,0),(z,aa+(stop:Int).toNat*1),(js,0),(0,0)] (Fh d r_ m f p g q ad a af ae ag ab ac l) [⟨cg,x45.tm.length,cl,3,1,g2,0⟩,⟨ch,x45.turns.length,cm,3,1,g3,0⟩,⟨ci,x45.legs.length,cn,31,1,g4,0⟩] abp)=>hK _ _ (Am.unset 5 rfl (by kernel_rfl) (Am.forget [5] pt.plOk)) (Dj (e':=[(s,0),(u,0),(x,0),(y,0),(z,aa+(stop:Int).toNat*1),(js,0),(0,0)]) (pl':=(Gx d r_ m f p g q ad a af ae ag ab ac l)) (fun _ hp=>hp.unset 5 rfl (by kernel_rfl)) ?_)
     refine A2 [2,6,4,1,0] (by kernel_rfl) (by rfl) (qg js cg cl g2 ch cm g3 ci cn g4 _ _ ?_)
     exact QY _ ⟨_,rfl,xx.kp,pt,k2,ma,mb,mc⟩
    ·
     refine KS 6 Bf mn em fun jt aaq abq (xy:Kn 123 [(s,0),(u,0),(x,0),(y,0),(z,aa+(stop:Int).toNat*1),(0,0),(jt,0)] ((tP 13 6 0)::(tA 45 [.slice cg x45.tm.length cl,.slice ch x45.turns.length cm,.slice ci x45.legs.length cn])::(BB d r_ m f p g q x41 l)) aaq) (pu:Ah ⟨w,h,Az⟩ lx [(s,0),(u,0),(x,0),(y,0),(z,aa+(stop:Int).toNat*1),(0,0),(jt,0)] (CS d r_ m f p g q ad a af ae ag ab ac l) [⟨cg,x45.tm.length,cl,3,1,g2,0⟩,⟨ch,x45.turns.length,cm,3,1,g3,0⟩,⟨ci,x45.legs.length,cn,31,1,g4,0⟩] abq)=>hK _ _ (Am.unset 6 rfl (by kernel_rfl) pu.plOk) (Dj (e':=[(s,0),(u,0),(x,0),(y,0),(z,aa+(stop:Int).toNat*1),(0,0),(jt,0)]) (pl':=(CS d r_ m f p g q ad a af ae ag ab ac l)) (fun _ hp=>hp.unset 6 rfl (by kernel_rfl)) ?_)
     refine A2 [2,7,4,1,0] (by kernel_rfl) (by rfl) (qh jt cg cl g2 ch cm g3 ci cn g4 _ _ ?_)
     exact QY _ ⟨_,rfl,xy.kp,pu,k2,ma,mb,mc⟩
   ·
    refine AV ky c5.plOk rfl (by decide) (by kernel_rfl) fun aar (mo:Kn 123 (Gd s u x y z aa stop) ((tA 46 (Au d r_ m f p g q))::(BB d r_ m f p g q x41 l)) aar)=>hK _ _ c5.plOk ?_
    refine FD 2 6 7 rfl rfl rfl (by kernel_rfl) (by decide) (rfl) (rfl) (rfl) (fun K hK=>?_) (fun K hK=>?_) (fun K hK=>?_)
    ·
     refine C4 (Hm d r_ m f p g q) _ mo c5 rfl rfl (by decide) (by rfl) rfl (fun _ _=>by kernel_rfl) (Av n c5.has r_ ((Aa (Ae ai) (Aa (Aa Ac Ac) (Aa (Ae aj) (Aa (Ae ak) (Aa Ac (Aa Ac (Aa Ac Ac))))))):rep ax r_ _) (Gl.mk (fun(y0:Rg)=>Aj n y0)) (⟨_,_,_,rfl,(show Mt ax (.func (.func 68) #[] #[]) (fun(y0:Rg)=>Aj n y0) from fun h2 w2 hle hh y0 cs0 hy0 r H=>⟨68,_,_,rfl,fun _ _=>by kernel_rfl,AO n hh y0 hy0 H⟩)⟩:rep ax (Gl.mk (fun(y0:Rg)=>Aj n y0)) _) ex45) fun aed sj abr aco r8 o5 lk=>?_
     replace ah:=o5 _ _ _ ah
     obtain⟨ja,kn,rk,jb,ko,rl,jc,kq,rm,rfl,rfl,t8,t9,ua⟩:=r8
     replace lk:Ah ⟨w,h,Az⟩ sj (Gd s u x y z aa stop) (Jz d r_ m f p g q ad a af ae ag ab ac l) [⟨ja,x45.tm.length,kn,3,1,rk,0⟩,⟨jb,x45.turns.length,ko,3,1,rl,0⟩,⟨jc,x45.legs.length,kq,31,1,rm,0⟩] abr:=lk
     refine⟨.one (.agg [.slice ja x45.tm.length kn,.slice jb x45.turns.length ko,.slice jc x45.legs.length kq]),rfl,fun aas (xz:Kn 123 (Gd s u x y z aa stop) ((tA 45 [.slice ja x45.tm.length kn,.slice jb x45.turns.length ko,.slice jc x45.legs.length kq])::(tA 46 (Au d r_ m f p g q))::(BB d r_ m f p g q x41 l)) aas)=>hK _ _ lk.plOk ?_⟩
     refine A2 [2,3,4,1,0] (by kernel_rfl) (by rfl) (qf ja kn rk jb ko rl jc kq rm _ _ ?_)
     exact QY _ ⟨_,rfl,xz.kp,lk,o5,t8,t9,ua⟩
    ·
     refine KS 5 Bf mo c5 fun ju zc aat (ub:Kn 123 [(s,0),(u,0),(x,0),(y,0),(z,aa+(stop:Int).toNat*1),(ju,0),(0,0)] ((tP 12 5 0)::(tA 46 (Au d r_ m f p g q))::(BB d r_ m f p g q x41 l)) zc) (o6:Ah ⟨w,h,Az⟩ ax [(s,0),(u,0),(x,0),(y,0),(z,aa+(stop:Int).toNat*1),(ju,0),(0,0)] (Fh d r_ m f p g q ad a af ae ag ab ac l) [] aat)=>hK _ _ (Am.unset 5 rfl (by kernel_rfl) (Am.forget [5] o6.plOk)) (Dj (e':=[(s,0),(u,0),(x,0),(y,0),(z,aa+(stop:Int).toNat*1),(ju,0),(0,0)]) (pl':=(Gx d r_ m f p g q ad a af ae ag ab ac l)) (fun _ hp=>hp.unset 5 rfl (by kernel_rfl)) ?_)
     refine A2 [3,6,4,1,0] (by kernel_rfl) (by rfl) (qi ju _ _ ?_)
     exact QY _ ⟨_,rfl,ub.kp,o6,Ad.le_refl _⟩
    ·
     refine KS 6 Bf mo c5 fun jd zd aau (uc:Kn 123 [(s,0),(u,0),(x,0),(y,0),(z,aa+(stop:Int).toNat*1),(0,0),(jd,0)] ((tP 13 6 0)::(tA 46 (Au d r_ m f p g q))::(BB d r_ m f p g q x41 l)) zd) (o7:Ah ⟨w,h,Az⟩ ax [(s,0),(u,0),(x,0),(y,0),(z,aa+(stop:Int).toNat*1),(0,0),(jd,0)] (CS d r_ m f p g q ad a af ae ag ab ac l) [] aau)=>hK _ _ (Am.unset 6 rfl (by kernel_rfl) o7.plOk) (Dj (e':=[(s,0),(u,0),(x,0),(y,0),(z,aa+(stop:Int).toNat*1),(0,0),(jd,0)]) (pl':=(CS d r_ m f p g q ad a af ae ag ab ac l)) (fun _ hp=>hp.unset 6 rfl (by kernel_rfl)) ?_)
     refine A2 [3,7,4,1,0] (by kernel_rfl) (by rfl) (qj jd _ _ ?_)
     exact QY _ ⟨_,rfl,uc.kp,o7,Ad.le_refl _⟩
   ·
    refine KS 5 Bf ky c5 fun bx ze aav (md:Kn 123 (Lx s u x y z aa stop bx) ((tP 12 5 0)::(BB d r_ m f p g q x41 l)) ze) (ez:Ah ⟨w,h,Az⟩ ax (Lx s u x y z aa stop bx) (Fh d r_ m f p g q ad a af ae ag ab ac l) [] aav)=>hK _ _ (Am.unset 5 rfl (by kernel_rfl) (Am.forget [5] ez.plOk)) (Dj (e':=(Lx s u x y z aa stop bx)) (pl':=(Gx d r_ m f p g q ad a af ae ag ab ac l)) (fun _ hp=>hp.unset 5 rfl (by kernel_rfl)) ?_)
    refine FD 2 3 7 rfl rfl rfl (by kernel_rfl) (by decide) (rfl) (rfl) (rfl) (fun K hK=>?_) (fun K hK=>?_) (fun K hK=>?_)
    ·
     refine C4 (Hm d r_ m f p g q) _ md ez rfl rfl (by decide) (by rfl) rfl (fun _ _=>by kernel_rfl) (Av n ez.has r_ ((Aa (Ae ai) (Aa (Aa Ac Ac) (Aa (Ae aj) (Aa (Ae ak) (Aa Ac (Aa Ac (Aa Ac Ac))))))):rep ax r_ _) (Gl.mk (fun(y0:Rg)=>Aj n y0)) (⟨_,_,_,rfl,(show Mt ax (.func (.func 68) #[] #[]) (fun(y0:Rg)=>Aj n y0) from fun h2 w2 hle hh y0 cs0 hy0 r H=>⟨68,_,_,rfl,fun _ _=>by kernel_rfl,AO n hh y0 hy0 H⟩)⟩:rep ax (Gl.mk (fun(y0:Rg)=>Aj n y0)) _) ex45) fun adx r9 aaw acd rr ow k3=>?_
     replace ah:=ow _ _ _ ah
     obtain⟨ie,jv,qt,ig,jw,qu,ih,jx,qv,rfl,rfl,sm,sn,sp⟩:=rr
     replace k3:Ah ⟨w,h,Az⟩ r9 (Lx s u x y z aa stop bx) (Fh d r_ m f p g q ad a af ae ag ab ac l) [⟨ie,x45.tm.length,jv,3,1,qt,0⟩,⟨ig,x45.turns.length,jw,3,1,qu,0⟩,⟨ih,x45.legs.length,jx,31,1,qv,0⟩] aaw:=k3
     refine⟨.one (.agg [.slice ie x45.tm.length jv,.slice ig x45.turns.length jw,.slice ih x45.legs.length jx]),rfl,fun zf (uf:Kn 123 (Lx s u x y z aa stop bx) ((tA 45 [.slice ie x45.tm.length jv,.slice ig x45.turns.length jw,.slice ih x45.legs.length jx])::(tP 12 5 0)::(BB d r_ m f p g q x41 l)) zf)=>hK _ _ (Am.forget [5] k3.plOk) ?_⟩
     refine A2 [2,6,4,1,0] (by kernel_rfl) (by rfl) (qg bx ie jv qt ig jw qu ih jx qv _ _ ?_)
     exact QY _ ⟨_,rfl,uf.kp,k3,ow,sm,sn,sp⟩
    ·
     refine AV md (Am.forget [5] ez.plOk) rfl (by decide) (by kernel_rfl) fun zg (ug:Kn 123 (Lx s u x y z aa stop bx) ((tA 46 (Au d r_ m f p g q))::(tP 12 5 0)::(BB d r_ m f p g q x41 l)) zg)=>hK _ _ (Am.forget [5] ez.plOk) ?_
     refine A2 [3,6,4,1,0] (by kernel_rfl) (by rfl) (qi bx _ _ ?_)
     exact QY _ ⟨_,rfl,ug.kp,ez,Ad.le_refl _⟩
    ·
     refine KS 6 Bf md ez fun je zh aax (uh:Kn 123 [(s,0),(u,0),(x,0),(y,0),(z,aa+(stop:Int).toNat*1),(bx,0),(je,0)] ((tP 13 6 0)::(tP 12 5 0)::(BB d r_ m f p g q x41 l)) zh) (o8:Ah ⟨w,h,Az⟩ ax [(s,0),(u,0),(x,0),(y,0),(z,aa+(stop:Int).toNat*1),(bx,0),(je,0)] (D3 d r_ m f p g q ad a af ae ag ab ac l) [] aax)=>hK _ _ (Am.unset 6 rfl (by kernel_rfl) (Am.forget [5] o8.plOk)) (Dj (e':=[(s,0),(u,0),(x,0),(y,0),(z,aa+(stop:Int).toNat*1),(bx,0),(je,0)]) (pl':=(DV d r_ m f p g q ad a af ae ag ab ac l)) (fun _ hp=>hp.unset 6 rfl (by kernel_rfl)) ?_)
     refine A2 [6,7,4,1,0] (by kernel_rfl) (by rfl) (qk bx je _ _ ?_)
     exact QY _ ⟨_,rfl,uh.kp,o8,Ad.le_refl _⟩
   ·
    refine KS 6 Bf ky c5 fun bz zi aay (me:Kn 123 (Jv s u x y z aa stop bz) ((tP 13 6 0)::(BB d r_ m f p g q x41 l)) zi) (e0:Ah ⟨w,h,Az⟩ ax (Jv s u x y z aa stop bz) (CS d r_ m f p g q ad a af ae ag ab ac l) [] aay)=>hK _ _ (Am.unset 6 rfl (by kernel_rfl) e0.plOk) (Dj (e':=(Jv s u x y z aa stop bz)) (pl':=(CS d r_ m f p g q ad a af ae ag ab ac l)) (fun _ hp=>hp.unset 6 rfl (by kernel_rfl)) ?_)
    refine FD 2 3 6 rfl rfl rfl (by kernel_rfl) (by decide) (rfl) (rfl) (rfl) (fun K hK=>?_) (fun K hK=>?_) (fun K hK=>?_)
    ·
     refine C4 (Hm d r_ m f p g q) _ me e0 rfl rfl (by decide) (by rfl) rfl (fun _ _=>by kernel_rfl) (Av n e0.has r_ ((Aa (Ae ai) (Aa (Aa Ac Ac) (Aa (Ae aj) (Aa (Ae ak) (Aa Ac (Aa Ac (Aa Ac Ac))))))):rep ax r_ _) (Gl.mk (fun(y0:Rg)=>Aj n y0)) (⟨_,_,_,rfl,(show Mt ax (.func (.func 68) #[] #[]) (fun(y0:Rg)=>Aj n y0) from fun h2 w2 hle hh y0 cs0 hy0 r H=>⟨68,_,_,rfl,fun _ _=>by kernel_rfl,AO n hh y0 hy0 H⟩)⟩:rep ax (Gl.mk (fun(y0:Rg)=>Aj n y0)) _) ex45) fun ady sa aaz ace rs ox k4=>?_
     replace ah:=ox _ _ _ ah
     obtain⟨ii,jy,qw,ij,jz,qx,ik,j0,qy,rfl,rfl,sq,sr,ss⟩:=rs
     replace k4:Ah ⟨w,h,Az⟩ sa (Jv s u x y z aa stop bz) (CS d r_ m f p g q ad a af ae ag ab ac l) [⟨ii,x45.tm.length,jy,3,1,qw,0⟩,⟨ij,x45.turns.length,jz,3,1,qx,0⟩,⟨ik,x45.legs.length,j0,31,1,qy,0⟩] aaz:=k4
     refine⟨.one (.agg [.slice ii x45.tm.length jy,.slice ij x45.turns.length jz,.slice ik x45.legs.length j0]),rfl,fun zj (ui:Kn 123 (Jv s u x y z aa stop bz) ((tA 45 [.slice ii x45.tm.length jy,.slice ij x45.turns.length jz,.slice ik x45.legs.length j0])::(tP 13 6 0)::(BB d r_ m f p g q x41 l)) zj)=>hK _ _ k4.plOk ?_⟩
     refine A2 [2,7,4,1,0] (by kernel_rfl) (by rfl) (qh bz ii jy qw ij jz qx ik j0 qy _ _ ?_)
     exact QY _ ⟨_,rfl,ui.kp,k4,ox,sq,sr,ss⟩
    ·
     refine AV me e0.plOk rfl (by decide) (by kernel_rfl) fun zk (uj:Kn 123 (Jv s u x y z aa stop bz) ((tA 46 (Au d r_ m f p g q))::(tP 13 6 0)::(BB d r_ m f p g q x41 l)) zk)=>hK _ _ e0.plOk ?_
     refine A2 [3,7,4,1,0] (by kernel_rfl) (by rfl) (qj bz _ _ ?_)
     exact QY _ ⟨_,rfl,uj.kp,e0,Ad.le_refl _⟩
    ·
     refine KS 5 Bf me e0 fun jf zl aa0 (uk:Kn 123 [(s,0),(u,0),(x,0),(y,0),(z,aa+(stop:Int).toNat*1),(jf,0),(bz,0)] ((tP 12 5 0)::(tP 13 6 0)::(BB d r_ m f p g q x41 l)) zl) (o9:Ah ⟨w,h,Az⟩ ax [(s,0),(u,0),(x,0),(y,0),(z,aa+(stop:Int).toNat*1),(jf,0),(bz,0)] (D3 d r_ m f p g q ad a af ae ag ab ac l) [] aa0)=>hK _ _ (Am.unset 5 rfl (by kernel_rfl) (Am.forget [5] o9.plOk)) (Dj (e':=[(s,0),(u,0),(x,0),(y,0),(z,aa+(stop:Int).toNat*1),(jf,0),(bz,0)]) (pl':=(DV d r_ m f p g q ad a af ae ag ab ac l)) (fun _ hp=>hp.unset 5 rfl (by kernel_rfl)) ?_)
     refine A2 [6,7,4,1,0] (by kernel_rfl) (by rfl) (qk jf bz _ _ ?_)
     exact QY _ ⟨_,rfl,uk.kp,o9,Ad.le_refl _⟩
end Go.Proofs.Ytokchpjijlebiaa
