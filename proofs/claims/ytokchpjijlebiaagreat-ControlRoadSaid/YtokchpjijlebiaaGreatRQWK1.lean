/- Each call computes its plain function. -/
import Derived.Test.YtokchpjijlebiaaGreatProg
import Derived.Test.YtokchpjijlebiaaGreatRQWQ
import Derived.Test.YtokchpjijlebiaaGreatRQWV
import Derived.Test.YtokchpjijlebiaaGreatRQWW
set_option linter.all false
namespace Go.Proofs.YtokchpjijlebiaaGreat
open Go Go.RowKit
set_option maxRecDepth 100000
set_option maxHeartbeats 4000000
open Rep (rep)
open KRep (kv)
open VRep (rv)
abbrev LR (bL:(Rg×Bool)):=([Ws bL.1.lo,Ws bL.1.hi]:List SC)
abbrev Ij (s u x y z)(aa:Nat)(stop:Int):=([(s,0),(u,0),(x,0),(y,0),(z,aa+Wv stop*1),(0,0),(0,0)]:Bh)
abbrev RT (s u x y z)(aa:Nat)(stop:Int)(b4):=([(s,0),(u,0),(x,0),(y,0),(z,aa+Wv stop*1),(b4,0),(0,0)]:Bh)
abbrev RU (s u x y z)(aa:Nat)(stop:Int)(b5):=([(s,0),(u,0),(x,0),(y,0),(z,aa+Wv stop*1),(0,0),(b5,0)]:Bh)
abbrev E0 (s u x y z)(aa:Nat)(stop:Int)(al am):=([(s,0),(u,0),(x,0),(y,0),(z,aa+Wv stop*1),(al,0),(am,0)]:Bh)
abbrev M5 (s u x y z)(aa:Nat)(stop:Int)(al am a9):=([(s,0),(u,0),(x,0),(y,0),(z,aa+Wv stop*1),(al,0),(am,0),(a9,0)]:Bh)
abbrev JM (d)(r_:Af)(m f p g q):=([.agg (UB d r_ m f p g q),.agg [.func (.func 55) #[] #[]]]:List SA)
abbrev M6 (d)(r_:Af)(m f p g q ad)(a:An)(af ae ag ab ac l):=([⟨UB d r_ m f p g q,some 48⟩,⟨OL ad a af ae ag ab ac,some 50⟩,⟨UE,some 52⟩,⟨RN d r_ m f p g q ad a af ae ag ab ac,some 94⟩,⟨[.map (some l)],none⟩,⟨[],none⟩,⟨[],none⟩]:List Db)
abbrev ID (d)(r_:Af)(m f p g q ad)(a:An)(af ae ag ab ac l):=([⟨UB d r_ m f p g q,some 48⟩,⟨OL ad a af ae ag ab ac,some 50⟩,⟨UE,some 52⟩,⟨RN d r_ m f p g q ad a af ae ag ab ac,some 94⟩,⟨[.map (some l)],none⟩,⟨[],some 52⟩,⟨[],none⟩]:List Db)
abbrev GE (d)(r_:Af)(m f p g q ad)(a:An)(af ae ag ab ac l):=([⟨UB d r_ m f p g q,some 48⟩,⟨OL ad a af ae ag ab ac,some 50⟩,⟨UE,some 52⟩,⟨RN d r_ m f p g q ad a af ae ag ab ac,some 94⟩,⟨[.map (some l)],none⟩,⟨UE,some 52⟩,⟨[],none⟩]:List Db)
abbrev D7 (d)(r_:Af)(m f p g q ad)(a:An)(af ae ag ab ac l):=([⟨UB d r_ m f p g q,some 48⟩,⟨OL ad a af ae ag ab ac,some 50⟩,⟨UE,some 52⟩,⟨RN d r_ m f p g q ad a af ae ag ab ac,some 94⟩,⟨[.map (some l)],none⟩,⟨[],none⟩,⟨UE,some 52⟩]:List Db)
abbrev Fh (d)(r_:Af)(m f p g q ad)(a:An)(af ae ag ab ac l):=([⟨UB d r_ m f p g q,some 48⟩,⟨OL ad a af ae ag ab ac,some 50⟩,⟨UE,some 52⟩,⟨RN d r_ m f p g q ad a af ae ag ab ac,some 94⟩,⟨[.map (some l)],none⟩,⟨[],some 52⟩,⟨UE,some 52⟩]:List Db)
abbrev E2 (d)(r_:Af)(m f p g q ad)(a:An)(af ae ag ab ac l):=([⟨UB d r_ m f p g q,some 48⟩,⟨OL ad a af ae ag ab ac,some 50⟩,⟨UE,some 52⟩,⟨RN d r_ m f p g q ad a af ae ag ab ac,some 94⟩,⟨[.map (some l)],none⟩,⟨UE,some 52⟩,⟨UE,some 52⟩]:List Db)
abbrev B0 (bK:KP)(l):=([tI 11 bK.fr,(10,.one (.c (.map (some l)))),tP 6 2 0,tP 4 1 0,tP 3 0 0]:TM)
abbrev Gk (aG)(r_:Af)(bB)(bK:KP)(l):=((tI 56 aG)::(tI 55 (Wt (((r_.lB.length:Nat):Int)+((r_.lC.length:Nat):Int))))::(tI 14 bB)::(tP 13 6 0)::(tP 12 5 0)::(B0 bK l):TM)
abbrev Cr (d)(r_:Af)(m f p g q)(bK:KP)(l):=((tA 47 [.func (.func 56) #[] #[]])::(tA 44 [.func (.func 55) #[] #[]])::(tA 43 (UB d r_ m f p g q))::(B0 bK l):TM)
abbrev Dh (aG)(r_:Af)(bB)(bK:KP)(l):=((tB 16 (decide (aG<((r_.lB.length:Nat):Int))))::(tI 15 aG)::(Gk aG r_ bB bK l):TM)
theorem Ik (n:Nat) {h:Ae} {w:World} (hh:Dk h w) (r_:Af) {aP:Wx} (aW:rep h r_ aP) (a:An) {cS:Wx} (dN:rep h a cS) (stop:Int) {Q:(Ap×Int)→Prop} (H:Ey n r_ a stop Q) :
  Calls Tryz.prog 27 #[.agg aP.toArray,.agg cS.toArray,.int .i64 stop] w (Dq (fun h v=>∃ r,Q r∧∃ v0 v1,v=.tuple #[v0,v1]∧(∃ cs,v0=.agg cs.toArray∧rep h r.1 cs)∧(v1=.int .i64 r.2)) h w):=by
 obtain⟨_,_,rfl,⟨d,m,rfl,ai⟩,⟨_,_,rfl,⟨_,_,rfl,rfl,rfl⟩,⟨_,_,rfl,⟨f,p,rfl,aj⟩,⟨_,_,rfl,⟨g,q,rfl,ak⟩,⟨_,_,rfl,rfl,⟨_,_,rfl,rfl,⟨_,_,rfl,rfl,rfl⟩⟩⟩⟩⟩⟩⟩:=aW
 obtain⟨_,_,rfl,⟨ad,af,rfl,a5⟩,⟨_,_,rfl,⟨ae,ag,rfl,a6⟩,⟨ab,ac,rfl,a4⟩⟩⟩:=dN
 refine enter 123 [.agg (UB d r_ m f p g q),.agg (OL ad a af ae ag ab ac),.c (Ws stop)] Tryz.func27 rfl rfl rfl rfl fun t hk=>?_
 have hm:=Ah.begin h w hh
 unfold Ey at H
 refine XT (Aa (wl fun K hK=>?_))
 refine wb (.agg (UB d r_ m f p g q)) hk hm fun s zo aei (u1:Kn 123 [(s,0)] [tP 3 0 0,tA 0 (UB d r_ m f p g q),tA 1 (OL ad a af ae ag ab ac),tI 2 stop] zo) x7=>hK _ _ ?_
 refine wl fun K hK=>?_
 refine wb (.agg (OL ad a af ae ag ab ac)) u1 x7 fun u zq ael (vc:Kn 123 [(s,0),(u,0)] [tP 4 1 0,tP 3 0 0,tA 0 (UB d r_ m f p g q),tA 1 (OL ad a af ae ag ab ac),tI 2 stop] zq) x9=>hK _ _ ?_
 refine wl fun K hK=>?_
 refine wa UE vc x9 fun x zt aep (vo:Kn 123 [(s,0),(u,0),(x,0)] [tP 6 2 0,tP 4 1 0,tP 3 0 0,tA 0 (UB d r_ m f p g q),tA 1 (OL ad a af ae ag ab ac),tI 2 stop] zt) k6=>hK _ _ ?_
 refine Rk 3 1 [tP 6 2 0,tP 4 1 0,tP 3 0 0,tI 2 stop] vo k6 fun ac9 vt=>?_
 refine wf (XT (XT (Aa (Rk 0 2 [tA 20 (OL ad a af ae ag ab ac),tA 19 (UB d r_ m f p g q),tP 6 2 0,tP 4 1 0,tP 3 0 0,tI 2 stop] vt k6 fun adc vx=>?_))))
 obtain⟨cV,fQ,H⟩:=H
 refine wl fun K hK=>?_
 refine wc [.agg (UB d r_ m f p g q),.agg (OL ad a af ae ag ab ac)] vx k6 (E3 n k6.has r_ ((Ab (Ad ai) (Ab (Ab Ac Ac) (Ab (Ad aj) (Ab (Ad ak) (Ab Ac (Ab Ac (Ab Ac Ac))))))):rep h r_ _) a ((Ab (Ad a5) (Ab (Ad a6) (Ad a4))):rep h a _) fQ) fun ad1 n1 aeq rv gm e1=>?_
 replace ai:=ai.mono gm
 replace aj:=aj.mono gm
 replace ak:=ak.mono gm
 replace a5:=a5.mono gm
 replace a6:=a6.mono gm
 replace a4:=a4.mono gm
 obtain rfl:=rv
 refine⟨.one (.c (Ws cV)),rfl,fun zx (wn:Kn 123 [(s,0),(u,0),(x,0)] [tI 21 cV,tA 20 (OL ad a af ae ag ab ac),tA 19 (UB d r_ m f p g q),tP 6 2 0,tP 4 1 0,tP 3 0 0,tI 2 stop] zx)=>hK _ _ ?_⟩
 refine Rk 3 1 [tI 8 cV,tP 6 2 0,tP 4 1 0,tP 3 0 0,tI 2 stop] wn e1 fun adn wp=>?_
 refine wf (XT (Aa (Rk 0 2 [tB 23 (cV != 0),tI 8 cV,tP 6 2 0,tP 4 1 0,tP 3 0 0,tI 2 stop] wp e1 fun ado mj=>?_)))
 refine wf (wC ((cV != 0)) mj (fun l2=>?_) (fun l2=>?_))
 ·
  rw [l2,XW] at H
  refine XT (Aa (Rk 0 2 [tI 25 cV,tA 24 UE,tP 6 2 0] mj e1 fun adp ws=>?_))
  refine wl fun K hK=>?_
  refine EZ 2 0 (.agg UE) UE ws e1 fun aet wu pe=>hK _ _ ?_
  refine Rk 3 1 [tI 7 cV,tP 6 2 0] wu pe fun adq wx=>?_
  refine wf (wp_ret ?_)
  exact rt (.tup [.agg UE,.c (Ws cV)]) wx pe ⟨_,H,⟨_,_,rfl,⟨_,rfl,((Ab (Ad A4.nil) (Ab (Ad A4.nil) (Ad A4.nil))):rep n1 ((Ap.mk ([]:List Int) ([]:List Int) ([]:List (List Int))):Ap) _)⟩,rfl⟩⟩
 ·
  rw [l2,XV] at H
  refine wp_skip (XT (XT (Aa (Rk 0 2 [tI 27 stop,tA 26 (UB d r_ m f p g q),tP 6 2 0,tP 4 1 0,tP 3 0 0,tI 2 stop] mj e1 fun adr wz=>?_))))
  obtain⟨fA,jD,H⟩:=H
  refine wl fun K hK=>?_
  refine wc [.agg (UB d r_ m f p g q),.c (Ws stop)] wz e1 (Dn n e1.has r_ ((Ab (Ad ai) (Ab (Ab Ac Ac) (Ab (Ad aj) (Ab (Ad ak) (Ab Ac (Ab Ac (Ab Ac Ac))))))):rep n1 r_ _) stop jD) fun ad3 n4 aex rz gn hr=>?_
  replace ai:=ai.mono gn
  replace aj:=aj.mono gn
  replace ak:=ak.mono gn
  replace a5:=a5.mono gn
  replace a6:=a6.mono gn
  replace a4:=a4.mono gn
  obtain rfl:=rz
  refine⟨.one (.c (.bool fA)),rfl,fun z3 (w3:Kn 123 [(s,0),(u,0),(x,0)] [tB 28 fA,tI 27 stop,tA 26 (UB d r_ m f p g q),tP 6 2 0,tP 4 1 0,tP 3 0 0,tI 2 stop] z3)=>hK _ _ ?_⟩
  refine Rk 3 1 [tB 29 (!fA),tP 6 2 0,tP 4 1 0,tP 3 0 0,tI 2 stop] w3 hr fun ads ml=>?_
  refine wf (wC ((!fA)) ml (fun l3=>?_) (fun l3=>?_))
  ·
   rw [l3,XW] at H
   refine XT (Aa (Rk 0 1 [tA 30 UE,tP 6 2 0] ml hr fun adt w9=>?_))
   refine wl fun K hK=>?_
   refine EZ 2 0 (.agg UE) UE w9 hr fun ae1 xb pj=>hK _ _ ?_
   refine Rk 2 1 [tI 7 2,tP 6 2 0] xb pj fun adu xc=>?_
   refine wf (wp_ret ?_)
   exact rt (.tup [.agg UE,.c (Ws 2)]) xc pj ⟨_,H,⟨_,_,rfl,⟨_,rfl,((Ab (Ad A4.nil) (Ab (Ad A4.nil) (Ad A4.nil))):rep n4 ((Ap.mk ([]:List Int) ([]:List Int) ([]:List (List Int))):Ap) _)⟩,rfl⟩⟩
  ·
   rw [l3,XV] at H
   refine wp_skip (XT (Aa (Rk 0 3 [tA 33 (RN d r_ m f p g q ad a af ae ag ab ac),tP 6 2 0,tP 4 1 0,tP 3 0 0,tI 2 stop] ml hr fun adv xh=>?_)))
   refine wl fun K hK=>?_
   refine wa [Wu none 0 0,Ws 0,Ws 0,Wu none 0 0,Wu none 0 0,Ws 0,Ws 0,Ws 0,Ws 0,Wu none 0 0,Wu none 0 0,Wu none 0 0] xh hr fun y qs ae4 (xk:Kn 123 [(s,0),(u,0),(x,0),(y,0)] [tP 9 3 0,tA 33 (RN d r_ m f p g q ad a af ae ag ab ac),tP 6 2 0,tP 4 1 0,tP 3 0 0,tI 2 stop] qs) yi=>hK _ _ ?_
   refine wl fun K hK=>?_
   refine EZ 3 0 (.agg (RN d r_ m f p g q ad a af ae ag ab ac)) (RN d r_ m f p g q ad a af ae ag ab ac) xk yi fun ae7 xn m1=>hK _ _ ?_
   have xq:Kn 123 [(s,0),(u,0),(x,0),(y,0)] [tP 9 3 0,tP 6 2 0,tP 4 1 0,tP 3 0 0,tI 2 stop] qs:=xn.kp
   refine wf (XT (Aa (Rk 0 1 [tA 34 (RN d r_ m f p g q ad a af ae ag ab ac),tP 6 2 0,tP 4 1 0,tP 3 0 0,tI 2 stop] xq m1 fun adw xr=>?_)))
   obtain⟨cO,jA,H⟩:=H
   refine wl fun K hK=>?_
   refine wc [.agg (RN d r_ m f p g q ad a af ae ag ab ac)] xr m1 (DN n m1.has (AM.mk r_ a) ((Ab (Ab (Ad ai) (Ab (Ab Ac Ac) (Ab (Ad aj) (Ab (Ad ak) (Ab Ac (Ab Ac (Ab Ac Ac))))))) (Ab (Ad a5) (Ab (Ad a6) (Ad a4)))):rep n4 (AM.mk r_ a) _) jA) fun aea sh afa r6 gp ps=>?_
   replace ai:=ai.mono gp
   replace aj:=aj.mono gp
   replace ak:=ak.mono gp
   obtain⟨i9,km,rfl,yp⟩:=r6
   refine⟨.one (.c (Wu i9 cO.length km)),rfl,fun zb (ud:Kn 123 [(s,0),(u,0),(x,0),(y,0)] [tS 35 i9 cO.length km,tA 34 (RN d r_ m f p g q ad a af ae ag ab ac),tP 6 2 0,tP 4 1 0,tP 3 0 0,tI 2 stop] zb)=>hK _ _ ?_⟩
   refine Rk 2 1 [tI 36 stop,tS 35 i9 cO.length km,tP 6 2 0,tP 4 1 0,tP 3 0 0] ud ps fun acp ue=>?_
   obtain⟨gO,ex37,H⟩:=H
   obtain⟨yj,yl,y2⟩:=Ai ex37
   obtain⟨z,aa,abt,sk,yt,st⟩:=yp.get (by decide) y2
   obtain⟨l,ab1,abs,rfl,ah,ba⟩:=yt
   have k5:=ps.addPlc (b:=z) (o:=aa+Wv stop*1) (cs:=[.map (some l)]) (fun j c hj=>st j _ (Ak hj)) rfl (by kernel_rfl) (by kernel_rfl)
   refine Bl 3 (stop) rfl rfl (rfl) rfl (by decide) ue (by rfl) (by rfl) (by rfl) sk (by rfl) yj yl (by kernel_rfl) fun zm (ul:Kn 123 [(s,0),(u,0),(x,0),(y,0),(z,aa+Wv stop*1)] [tP 37 4 0,tI 36 stop,tS 35 i9 cO.length km,tP 6 2 0,tP 4 1 0,tP 3 0 0] zm)=>?_
   refine Rk 4 2 [(10,.one (.c (.map (some l)))),tP 6 2 0,tP 4 1 0,tP 3 0 0] ul k5 fun acq um=>?_
   refine wf (XT (Aa (Rk 0 2 [(40,.one (.c (.map (some l)))),tA 39 (UB d r_ m f p g q),(10,.one (.c (.map (some l)))),tP 6 2 0,tP 4 1 0,tP 3 0 0] um k5 fun acr un=>?_)))
   refine wl fun K hK=>?_
   refine wc [.agg (UB d r_ m f p g q),.c (.map (some l))] un k5 (FN n k5.has r_ ((Ab (Ad ai) (Ab (Ab Ac Ac) (Ab (Ad aj) (Ab (Ad ak) (Ab Ac (Ab Ac (Ab Ac Ac))))))):rep sh r_ _) gO ah ba H) fun adz ax aee ru ej hq=>?_
   replace ai:=ai.mono ej
   replace aj:=aj.mono ej
   replace ak:=ak.mono ej
   replace a5:=a5.mono (XU gp ej)
   replace a6:=a6.mono (XU gp ej)
   replace a4:=a4.mono (XU gp ej)
   replace ba:=ba.mono ej
   replace ah:=ej _ _ _ ah
   obtain⟨bK,H,⟨_,rfl,⟨_,_,rfl,rfl,rfl⟩⟩⟩:=ru
   refine⟨.one (.agg [Ws bK.fr,Ws bK.long]),rfl,fun zn (uo:Kn 123 [(s,0),(u,0),(x,0),(y,0),(z,aa+Wv stop*1)] [tA 41 [Ws bK.fr,Ws bK.long],(40,.one (.c (.map (some l)))),tA 39 (UB d r_ m f p g q),(10,.one (.c (.map (some l)))),tP 6 2 0,tP 4 1 0,tP 3 0 0] zn)=>hK _ _ ?_⟩
   refine Rk 3 2 (B0 bK l) uo hq fun acs uq=>?_
   refine wf (XT (Am (by kernel_rfl) ?_))
   replace hq:=hq.drew
   refine Ao [3] [(s,0),(u,0),(x,0),(y,0),(z,aa+Wv stop*1)] [⟨UB d r_ m f p g q,some 48⟩,⟨OL ad a af ae ag ab ac,some 50⟩,⟨UE,some 52⟩,⟨RN d r_ m f p g q ad a af ae ag ab ac,some 94⟩,⟨[.map (some l)],none⟩] ?_
   refine Dr [0,1,4] [4,1,0] (Cr d r_ m f p g q bK l) uq hq fun qo ur=>?_
   obtain⟨aZ,fW,H⟩:=H
   obtain⟨bU,ex48,H⟩:=H
   have ut:Kn 123 [(s,0),(u,0),(x,0),(y,0),(z,aa+Wv stop*1),(0,0)] (Cr d r_ m f p g q bK l) qo:=ur.push (0,0) (by kernel_rfl)
   have x4:=hq.addPlc (b:=0) (o:=0) (cs:=[]) (fun j c hj=>by simp at hj) rfl (by kernel_rfl) (by kernel_rfl)
   refine Cf (e':=[(s,0),(u,0),(x,0),(y,0),(z,aa+Wv stop*1),(0,0)]) (pl':=[⟨UB d r_ m f p g q,some 48⟩,⟨OL ad a af ae ag ab ac,some 50⟩,⟨UE,some 52⟩,⟨RN d r_ m f p g q ad a af ae ag ab ac,some 94⟩,⟨[.map (some l)],none⟩,⟨[],none⟩]) (fun _ hp=>hp.pop (Nat.le_of_eq rfl) (by kernel_rfl)) ?_
   have ky:Kn 123 (Ij s u x y z aa stop) (Cr d r_ m f p g q bK l) qo:=ut.push (0,0) (by kernel_rfl)
   have c5:=x4.addPlc (b:=0) (o:=0) (cs:=[]) (fun j c hj=>by simp at hj) rfl (by kernel_rfl) (by kernel_rfl)
   refine Cf (e':=(Ij s u x y z aa stop)) (pl':=(M6 d r_ m f p g q ad a af ae ag ab ac l)) (fun _ hp=>hp.pop (Nat.le_of_eq rfl) (by kernel_rfl)) ?_
   refine Bc (fun W=>∀ (al:Nat),∀ (am:Nat),∀ (e9:Ww),∀ (fu:Nat),∀ (ln:Wx),∀ (fa:Ww),∀ (fv:Nat),∀ (lp:Wx),∀ (fb:Ww),∀ (fw:Nat),∀ (lq:Wx),∀ (ap:Ww),∀ (au:Nat),∀ (b1:Wx),∀ (aq:Ww),∀ (av:Nat),∀ (b2:Wx),∀ (ar:Ww),∀ (aw:Nat),∀ (b3:Wx),∀ a' w',(∃ (lm:Array Value)(co:Ae),a' = ⟨lm,[]⟩∧Kn 123 (E0 s u x y z aa stop al am) ((tP 13 6 0)::(tP 12 5 0)::(tA 48 (Ie ap bU au aq av ar aw))::(tA 45 (Wr aZ e9 fu fa fv fb fw))::(B0 bK l)) lm∧Ah ⟨w,h,A6⟩ co (E0 s u x y z aa stop al am) (E2 d r_ m f p g q ad a af ae ag ab ac l) [⟨e9,aZ.tm.length,fu,3,1,ln,0⟩,⟨fa,aZ.lE.length,fv,3,1,lp,0⟩,⟨fb,aZ.lA.length,fw,29,1,lq,0⟩,⟨ap,bU.tm.length,au,3,1,b1,0⟩,⟨aq,bU.lE.length,av,3,1,b2,0⟩,⟨ar,bU.lA.length,aw,29,1,b3,0⟩] w'∧Ae.le ax co∧Ag co aZ.tm ln∧Ag co aZ.lE lp∧Ag co aZ.lA lq∧Ag co bU.tm b1∧Ag co bU.lE b2∧Ag co bU.lA b3)→W (E0 s u x y z aa stop al am) (Fh d r_ m f p g q ad a af ae ag ab ac l) [5,2,3,6,7,4,1,0] a' w') ?_ (fun m6=>?_)
   ·
    intro al am e9 fu ln fa fv lp fb fw lq ap au b1 aq av b2 ar aw b3
    rintro _ aef ⟨lm,co,rfl,uu,x5,ek,su,sv,sw,ef,eg,eh⟩
    replace ai:=ai.mono ek
    replace aj:=aj.mono ek
    replace ak:=ak.mono ek
    replace a5:=a5.mono ek
    replace a6:=a6.mono ek
    replace a4:=a4.mono ek
    replace ba:=ba.mono ek
    replace ah:=ek _ _ _ ah
    refine Cq 8 rfl (by kernel_rfl) (by decide) (rfl) (by kernel_rfl) fun K hK=>?_
    refine EZ 5 0 (.agg (Wr aZ e9 fu fa fv fb fw)) (Wr aZ e9 fu fa fv fb fw) uu x5 fun aeg uv x6=>hK _ _ ?_
    refine Ao [3] (E0 s u x y z aa stop al am) (Fh d r_ m f p g q ad a af ae ag ab ac l) ?_
    refine Cq 9 rfl (by kernel_rfl) (by decide) (rfl) (by kernel_rfl) fun K hK=>?_
    refine EZ 6 0 (.agg (Ie ap bU au aq av ar aw)) (Ie ap bU au aq av ar aw) uv x6 fun aeh uw mu=>hK _ _ ?_
    refine Ao [3] (E0 s u x y z aa stop al am) [⟨UB d r_ m f p g q,some 48⟩,⟨OL ad a af ae ag ab ac,some 50⟩,⟨UE,some 52⟩,⟨RN d r_ m f p g q ad a af ae ag ab ac,some 94⟩,⟨[.map (some l)],none⟩,⟨[],some 52⟩,⟨Ie ap bU au aq av ar aw,some 52⟩] ?_
    have ux:Kn 123 (E0 s u x y z aa stop al am) ((tP 13 6 0)::(tP 12 5 0)::(B0 bK l)) lm:=uw.kp
    refine A2 (by kernel_rfl) (XT (Aa (Rk 0 1 ((tI 14 0)::(tP 13 6 0)::(tP 12 5 0)::(B0 bK l)) ux mu fun act uy=>?_)))
    refine wf (XT (XT (Aa (Rk 0 8 ((tI 56 0)::(tI 55 (Wt (((r_.lB.length:Nat):Int)+((r_.lC.length:Nat):Int))))::(tI 14 0)::(tP 13 6 0)::(tP 12 5 0)::(B0 bK l)) uy mu fun acu uz=>?_))))
    refine wf ?_
    obtain⟨nx,rq,H⟩:=VS (G:=Bv n r_ a gO bK bU aZ.tm aZ.lE aZ.lA 0 0) H
    refine A0 (fun a' w'=>∃ (ao:(List Int)×(List Int)×(List (List Int)))(bc:Ww)(bi:Nat)(dz:Wx)(bd:Ww)(bj:Nat)(en:Wx)(be:Ww)(bk:Nat)(e2:Wx)(nb:Array Value)(gd:Ae),a' = ⟨nb,[]⟩∧Kn 123 (E0 s u x y z aa stop al am) [tP 12 5 0,tP 6 2 0] nb∧Ah ⟨w,h,A6⟩ gd (E0 s u x y z aa stop al am) [⟨UB d r_ m f p g q,some 48⟩,⟨OL ad a af ae ag ab ac,some 50⟩,⟨UE,some 52⟩,⟨RN d r_ m f p g q ad a af ae ag ab ac,some 94⟩,⟨[.map (some l)],none⟩,⟨Pb bc ao bi bd bj be bk,some 52⟩,⟨Ie ap bU au aq av ar aw,some 52⟩] [⟨bc,ao.1.length,bi,3,1,dz,0⟩,⟨bd,ao.2.1.length,bj,3,1,en,0⟩,⟨be,ao.2.2.length,bk,29,1,e2,0⟩,⟨ap,bU.tm.length,au,3,1,b1,0⟩,⟨aq,bU.lE.length,av,3,1,b2,0⟩,⟨ar,bU.lA.length,aw,29,1,b3,0⟩] w'∧Ae.le co gd∧Ag gd ao.1 dz∧Ag gd ao.2.1 en∧Ag gd ao.2.2 e2∧nx ao) ?_ ?_
    ·
     refine wp_block ?_
     refine Au (fun za a' w'=>∃ (aA:List Int)(aD:List Int)(aM:List (List Int))(aG:Int)(bB:Int)(ay:Ww)(a0:Nat)(bo:Wx)(az:Ww)(a1:Nat)(bq:Wx)(a7:Ww)(a8:Nat)(bb:Wx)(nc:Array Value)(et:Ae),a' = ⟨nc,[]⟩∧Kn 123 (E0 s u x y z aa stop al am) (Gk aG r_ bB bK l) nc∧Ah ⟨w,h,A6⟩ et (E0 s u x y z aa stop al am) [⟨UB d r_ m f p g q,some 48⟩,⟨OL ad a af ae ag ab ac,some 50⟩,⟨UE,some 52⟩,⟨RN d r_ m f p g q ad a af ae ag ab ac,some 94⟩,⟨[.map (some l)],none⟩,⟨[Wu ay aA.length a0,Wu az aD.length a1,Wu a7 aM.length a8],some 52⟩,⟨Ie ap bU au aq av ar aw,some 52⟩] [⟨ay,aA.length,a0,3,1,bo,0⟩,⟨az,aD.length,a1,3,1,bq,0⟩,⟨a7,aM.length,a8,29,1,bb,0⟩,⟨ap,bU.tm.length,au,3,1,b1,0⟩,⟨aq,bU.lE.length,av,3,1,b2,0⟩,⟨ar,bU.lA.length,aw,29,1,b3,0⟩] w'∧Ae.le co et∧Ag et aA bo∧Ag et aD bq∧Ag et aM bb∧Bv za r_ a gO bK bU aA aD aM aG bB nx) n ?_ ?_
     ·
      exact XY aZ.tm ⟨aZ.lE,aZ.lA,0,0,e9,fu,ln,fa,fv,lp,fb,fw,lq,_,_,rfl,uz.kp,mu,Ae.le_refl _,su,sv,sw,H⟩
     ·
      rintro gu _ aej ⟨aA,aD,aM,aG,bB,ay,a0,bo,az,a1,bq,a7,a8,bb,nc,et,rfl,u0,dw,bt,b9,ca,cq,an⟩
      obtain _ | gu:=gu
      ·
       rw [Bv] at an; exact an.elim
      rw [Bv] at an
      replace ai:=ai.mono bt
      replace aj:=aj.mono bt
      replace ak:=ak.mono bt
      replace a5:=a5.mono bt
      replace a6:=a6.mono bt
      replace a4:=a4.mono bt
      replace ba:=ba.mono bt
      replace ah:=bt _ _ _ ah
      replace ef:=ef.mono bt
      replace eg:=eg.mono bt
      replace eh:=eh.mono bt
      refine XT (Aa (Rk 0 1 ((tB 57 (decide (aG<(Wt (((r_.lB.length:Nat):Int)+((r_.lC.length:Nat):Int))))))::(Gk aG r_ bB bK l)) u0 dw fun acv mf=>?_))
      refine wf (XT (wC (decide (aG<(Wt (((r_.lB.length:Nat):Int)+((r_.lC.length:Nat):Int))))) mf (fun ly=>?_) (fun ly=>?_)))
      ·
       rw [ly,XW] at an
       refine wp_skip (XT (wp_block (XT (Aa (Rk 0 2 ((tI 15 aG)::(Gk aG r_ bB bK l)) mf dw fun acw u2=>?_)))))
       refine wf (XT (Aa (Rk 0 6 (Dh aG r_ bB bK l) u2 dw fun acx u3=>?_)))
       refine wf (XT (XT ?_))
       obtain⟨ql,gc,an⟩:=an
       refine A0 (fun a' w'=>∃ (nd:Array Value)(hc:Ae),a' = ⟨nd,[]⟩∧Kn 123 (E0 s u x y z aa stop al am) [tB 16 (decide (aG<((r_.lB.length:Nat):Int))),tI 15 aG,tI 56 aG,tI 55 (Wt (((r_.lB.length:Nat):Int)+((r_.lC.length:Nat):Int))),tI 14 bB,tP 13 6 0,tP 12 5 0,tI 11 bK.fr,(10,.one (.c (.map (some l)))),tP 6 2 0,tP 4 1 0,tP 3 0 0,tB 77 ql] nd∧Ah ⟨w,h,A6⟩ hc (E0 s u x y z aa stop al am) [⟨UB d r_ m f p g q,some 48⟩,⟨OL ad a af ae ag ab ac,some 50⟩,⟨UE,some 52⟩,⟨RN d r_ m f p g q ad a af ae ag ab ac,some 94⟩,⟨[.map (some l)],none⟩,⟨[Wu ay aA.length a0,Wu az aD.length a1,Wu a7 aM.length a8],some 52⟩,⟨Ie ap bU au aq av ar aw,some 52⟩] [⟨ay,aA.length,a0,3,1,bo,0⟩,⟨az,aD.length,a1,3,1,bq,0⟩,⟨a7,aM.length,a8,29,1,bb,0⟩,⟨ap,bU.tm.length,au,3,1,b1,0⟩,⟨aq,bU.lE.length,av,3,1,b2,0⟩,⟨ar,bU.lA.length,aw,29,1,b3,0⟩] w'∧Ae.le et hc) ?_ ?_
       ·
        refine Aa (Rk 0 3 ((tB 66 (!(decide (aG<((r_.lB.length:Nat):Int)))))::(Dh aG r_ bB bK l)) u3 dw fun qp oj=>?_)
        rcases Xb ((!(decide (aG<((r_.lB.length:Nat):Int))))) with hd | hd
        ·
         rw [hd,XW] at gc
         have u4:Kn 123 (E0 s u x y z aa stop al am) ((tB 66 true)::(Dh aG r_ bB bK l)) qp:=(oj.setB 66 true (by rfl) hd).kp
         refine Rk 3 7 ((tI 73 (Wt (aG-((r_.lB.length:Nat):Int))))::(tS 68 ab a.lC.length ac)::(tB 66 true)::(Dh aG r_ bB bK l)) u4 dw fun acy ok=>?_
         obtain⟨eO,ex74,gc⟩:=Av gc
         obtain⟨yk,ym,y3⟩:=Ai ex74
         obtain⟨nz,qm,abu,sl,yu,sx⟩:=a4.get (by decide) y3
         obtain rfl:=yu
         have pa:=dw.addPlc (b:=nz) (o:=qm+(Wt (aG-((r_.lB.length:Nat):Int)):Int).toNat*1) (cs:=[.bool eO]) (fun j c hj=>sx j _ (Ak hj)) rfl (by kernel_rfl) (by kernel_rfl)
         refine Bl 10 (Wt (aG-((r_.lB.length:Nat):Int))) rfl rfl (Aj ok (by kernel_rfl)) rfl (by decide) ok (by rfl) (by rfl) (by rfl) sl (by rfl) yk ym (by kernel_rfl) fun zp (u5:Kn 123 [(s,0),(u,0),(x,0),(y,0),(z,aa+Wv stop*1),(al,0),(am,0),(nz,qm+(Wt (aG-((r_.lB.length:Nat):Int)):Int).toNat*1)] ((tP 74 7 0)::(tI 73 (Wt (aG-((r_.lB.length:Nat):Int))))::(tS 68 ab a.lC.length ac)::(tB 66 true)::(Dh aG r_ bB bK l)) zp)=>?_
         refine Rk 11 3 ((tB 77 (!eO))::(Dh aG r_ bB bK l)) u5 pa fun acz u6=>?_
         refine wf ?_
         obtain rfl:=XZ gc
         exact XY _ ⟨_,rfl,(u6.keep [16,15,56,55,14,13,12,11,10,6,4,3,77] (by rfl)).cut 7 (by kernel_rfl),pa.cutPl 7 (by kernel_rfl),Ae.le_refl _⟩
        ·
         rw [hd,XV] at gc
         have u7:Kn 123 (E0 s u x y z aa stop al am) ((tB 66 false)::(Dh aG r_ bB bK l)) qp:=(oj.setB 66 false (by rfl) hd).kp
         refine Rk 3 11 ((tB 77 false)::(Dh aG r_ bB bK l)) u7 dw fun ac0 u8=>?_
         refine wf ?_
         obtain rfl:=XZ gc
         exact XY _ ⟨_,rfl,u8.kp,dw,Ae.le_refl _⟩
       ·
        rintro _ aek ⟨nd,hc,rfl,mg,gq,bp⟩
        replace ai:=ai.mono bp
        replace aj:=aj.mono bp
        replace ak:=ak.mono bp
        replace a5:=a5.mono bp
        replace a6:=a6.mono bp
        replace a4:=a4.mono bp
        replace ba:=ba.mono bp
        replace ah:=bp _ _ _ ah
        replace b9:=b9.mono bp
        replace ca:=ca.mono bp
        replace cq:=cq.mono bp
        replace ef:=ef.mono bp
        replace eg:=eg.mono bp
        replace eh:=eh.mono bp
        refine wC (ql) mg (fun lz=>?_) (fun lz=>?_)
        ·
         rw [lz,XW] at an
         refine wp_exit (Aa (Rk 0 2 ((tI 56 (Wt (aG+1)))::(tI 55 (Wt (((r_.lB.length:Nat):Int)+((r_.lC.length:Nat):Int))))::(tI 14 bB)::(tP 13 6 0)::(tP 12 5 0)::(B0 bK l)) mg gq fun ac1 u9=>?_))
         refine wf ?_
         exact XY gu ⟨Xc _,XY aA ⟨aD,aM,Wt (aG+1),bB,ay,a0,bo,az,a1,bq,a7,a8,bb,_,_,rfl,u9.kp,gq,XU bt bp,b9,ca,cq,an⟩⟩
        ·
         rw [lz,XV] at an
         refine wp_skip (XT (XT (Aa (Rk 0 2 ((tI 80 bB)::(79,.one (.c (.map (some l))))::(Dh aG r_ bB bK l)) mg gq fun ac2 va=>?_))))
         obtain⟨bL,kN,an⟩:=an
         refine wl fun K hK=>?_
         refine HZ (KT:=3) (E:=44) (k:=(bB:Int)) ((Rg.mk 0 0):Rg) (.c (Ws bB)) va rfl rfl (by decide) (by rfl) (by rfl) (by kernel_rfl) (KL.int (by kernel_rfl)) (gq.has.map ah) ba rfl (by kernel_rfl) ⟨_,rfl,((Ab Ac Ac):rep hc ((Rg.mk 0 0):Rg) _)⟩ fun ad0 p9=>?_
         rw [XZ kN] at p9 ⊢
         obtain⟨_,rfl,⟨_,_,rfl,rfl,rfl⟩⟩:=p9
         refine⟨.tup [.agg (LR bL),.c (.bool bL.2)],rfl,fun zr (vb:Kn 123 (E0 s u x y z aa stop al am) ((81,.tup [.agg (LR bL),.c (.bool bL.2)])::(tI 80 bB)::(79,.one (.c (.map (some l))))::(Dh aG r_ bB bK l)) zr)=>hK _ _ ?_⟩
         refine Rk 3 3 ((tB 83 bL.2)::(tA 82 (LR bL))::(Dh aG r_ bB bK l)) vb gq fun ac3 vd=>?_
         refine wl fun K hK=>?_
         refine wa [Ws 0,Ws 0] vd gq fun a9 zs aem (ve:Kn 123 (M5 s u x y z aa stop al am a9) ((tP 17 7 0)::(tB 83 bL.2)::(tA 82 (LR bL))::(Dh aG r_ bB bK l)) zs) x8=>hK _ _ ?_
         refine wl fun K hK=>?_
         refine EZ 7 0 (.agg (LR bL)) (LR bL) ve x8 fun aen vf gr=>hK _ _ ?_
         refine Rk 8 1 ((tB 18 bL.2)::(tP 17 7 0)::(Dh aG r_ bB bK l)) vf gr fun ac4 vg=>?_
         refine wf (XT ?_)
         obtain⟨qn,kr,an⟩:=an
         refine A0 (fun a' w'=>∃ (nf:Array Value)(b8:Ae),a' = ⟨nf,[]⟩∧Kn 123 (M5 s u x y z aa stop al am a9) [tB 16 (decide (aG<((r_.lB.length:Nat):Int))),tI 15 aG,tI 56 aG,tI 55 (Wt (((r_.lB.length:Nat):Int)+((r_.lC.length:Nat):Int))),tI 14 bB,tP 13 6 0,tP 12 5 0,tI 11 bK.fr,(10,.one (.c (.map (some l)))),tP 6 2 0,tP 4 1 0,tP 3 0 0,tB 90 qn] nf∧Ah ⟨w,h,A6⟩ b8 (M5 s u x y z aa stop al am a9) [⟨UB d r_ m f p g q,some 48⟩,⟨OL ad a af ae ag ab ac,some 50⟩,⟨UE,some 52⟩,⟨RN d r_ m f p g q ad a af ae ag ab ac,some 94⟩,⟨[.map (some l)],none⟩,⟨[Wu ay aA.length a0,Wu az aD.length a1,Wu a7 aM.length a8],some 52⟩,⟨Ie ap bU au aq av ar aw,some 52⟩,⟨LR bL,some 44⟩] [⟨ay,aA.length,a0,3,1,bo,0⟩,⟨az,aD.length,a1,3,1,bq,0⟩,⟨a7,aM.length,a8,29,1,bb,0⟩,⟨ap,bU.tm.length,au,3,1,b1,0⟩,⟨aq,bU.lE.length,av,3,1,b2,0⟩,⟨ar,bU.lA.length,aw,29,1,b3,0⟩] w'∧Ae.le hc b8) ?_ ?_
         ·
          refine Aa (Rk 0 2 ((tB 85 bL.2)::(tP 17 7 0)::(Dh aG r_ bB bK l)) vg gr fun qq ol=>?_)
          rcases Xb (bL.2) with he | he
          ·
           rw [he,XW] at kr
           have vh:Kn 123 (M5 s u x y z aa stop al am a9) ((tB 85 true)::(tP 17 7 0)::(Dh aG r_ bB bK l)) qq:=(ol.setB 85 true (by rfl) he).kp
           refine Rk 2 5 ((tB 90 (decide (bL.1.lo>bK.fr)))::(Dh aG r_ bB bK l)) vh gr fun ac5 vi=>?_
           refine wf ?_
           obtain rfl:=XZ kr
           exact XY _ ⟨_,rfl,vi.kp,gr,Ae.le_refl _⟩
          ·
           rw [he,XV] at kr
           have vj:Kn 123 (M5 s u x y z aa stop al am a9) ((tB 85 false)::(tP 17 7 0)::(Dh aG r_ bB bK l)) qq:=(ol.setB 85 false (by rfl) he).kp
           refine Rk 2 5 ((tB 90 false)::(Dh aG r_ bB bK l)) vj gr fun ac6 vk=>?_
           refine wf ?_
           obtain rfl:=XZ kr
           exact XY _ ⟨_,rfl,vk.kp,gr,Ae.le_refl _⟩
         ·
          rintro _ aeo ⟨nf,b8,rfl,mh,dx,cz⟩
          replace ah:=cz _ _ _ ah
          replace b9:=b9.mono cz
          replace ca:=ca.mono cz
          replace cq:=cq.mono cz
          replace ef:=ef.mono cz
          replace eg:=eg.mono cz
          replace eh:=eh.mono cz
          refine wC (qn) mh (fun l0=>?_) (fun l0=>?_)
          ·
           rw [l0,XW] at an
           refine XT (Am (by kernel_rfl) ?_)
           replace dx:=dx.drew
           refine Ao [] (M5 s u x y z aa stop al am a9) [⟨UB d r_ m f p g q,some 48⟩,⟨OL ad a af ae ag ab ac,some 50⟩,⟨UE,some 52⟩,⟨RN d r_ m f p g q ad a af ae ag ab ac,some 94⟩,⟨[.map (some l)],none⟩,⟨[Wu ay aA.length a0,Wu az aD.length a1,Wu a7 aM.length a8],some 52⟩,⟨Ie ap bU au aq av ar aw,some 52⟩,⟨LR bL,some 44⟩] ?_
           refine Dr [0,1,2,3,4,5] (dn 5) ((tI 96 aG)::(tS 95 ar bU.lA.length aw)::(tI 93 aG)::(tS 92 a7 aM.length a8)::(Dh aG r_ bB bK l)) mh dx fun ac7 vl=>?_
           obtain⟨eB,ex97,an⟩:=an
           obtain⟨px,p3,y4⟩:=Ai ex97
           have x0:=C1 px p3
           obtain⟨abv,yv,sy⟩:=GX (sz:=1) rfl eh y4
           obtain⟨a2,a3,rfl,yn⟩:=yv
           obtain⟨br,bs⟩:=CV dx (i:=5) rfl (b0:=0+Wv aG*1) (Xd (Xe (by decide)) (EY (sz:=1) rfl eh x0))
           have gs:=dx.addPlc (b:=br) (o:=0+Wv aG*1) (cs:=[]) (fun j c hj=>by simp at hj) rfl (by kernel_rfl) (by kernel_rfl)
           have bv:∀ (e:Bh) k c,([Wu a2 eB.length a3]:List SC)[k]? = some c→(b3)[0+Wv aG*1+k]? = some (c.den e):=fun e k c hk=>sy k _ (Ak hk)
           refine Az 6 (aG) [Wu a2 eB.length a3] (fun _ _ _ _ _ h=>h) rfl rfl (rfl) rfl (by decide) (by kernel_rfl) (by kernel_rfl) vl dx.plOk (by rfl) (by rfl) (by rfl) bs (by rfl) px p3 (by kernel_rfl) fun zu (vm:Kn 123 [(s,0),(u,0),(x,0),(y,0),(z,aa+Wv stop*1),(al,0),(am,0),(a9,0),(br,0+Wv aG*1)] ((tP 97 8 0)::(tI 96 aG)::(tS 95 ar bU.lA.length aw)::(tI 93 aG)::(tS 92 a7 aM.length a8)::(Dh aG r_ bB bK l)) zu)=>?_
           refine IX [7] [7,6,5,4,3,2,1,0] [98,93,92,16,15,56,55,14,13,12,11,10,6,4,3] ((tS 98 a2 eB.length a3)::(tI 93 aG)::(tS 92 a7 aM.length a8)::(Dh aG r_ bB bK l)) (fun _ _ _ _ _ h=>h) vm (Ay.peek gs.plOk gs 5 8 rfl rfl bs [Wu a2 eB.length a3] (bv _)) (by kernel_rfl) (by rfl) (by kernel_rfl) fun ac8 vn=>?_
           obtain⟨x99,ex99,an⟩:=an
           obtain⟨py,p4,y5⟩:=Ai ex99
           have mp:=C1 py p4
           obtain⟨abw,yw,s0⟩:=GX (sz:=1) rfl cq y5
           obtain⟨ny,n0,rfl,acc⟩:=yw
           obtain⟨bu,n5⟩:=CV gs (i:=2) rfl (b0:=0+Wv aG*1) (Xd (Xe (by decide)) (EY (sz:=1) rfl cq mp))
           have ya:=gs.addPlc (b:=bu) (o:=0+Wv aG*1) (cs:=[]) (fun j c hj=>by simp at hj) rfl (by kernel_rfl) (by kernel_rfl)
           have ab2:∀ (e:Bh) k c,([Wu ny x99.length n0]:List SC)[k]? = some c→(bb)[0+Wv aG*1+k]? = some (c.den e):=fun e k c hk=>s0 k _ (Ak hk)
           refine Az 8 (aG) [Wu ny x99.length n0] (fun _ _ _ _ _ h=>h) rfl rfl (rfl) rfl (by decide) (by kernel_rfl) (by kernel_rfl) vn (Ay.peek gs.plOk gs 5 8 rfl rfl bs [Wu a2 eB.length a3] (bv _)) (by rfl) (by rfl) (by rfl) n5 (by rfl) py p4 (by kernel_rfl) fun ng (vp:Kn 123 [(s,0),(u,0),(x,0),(y,0),(z,aa+Wv stop*1),(al,0),(am,0),(a9,0),(br,0+Wv aG*1),(bu,0+Wv aG*1)] ((tP 99 9 0)::(tS 98 a2 eB.length a3)::(tI 93 aG)::(tS 92 a7 aM.length a8)::(Dh aG r_ bB bK l)) ng)=>?_
           obtain⟨cc,rn,an⟩:=an
           obtain⟨ab6,ab9,qa⟩:=Er rn
           refine Cq 9 rfl (by kernel_rfl) (by decide) (rfl) (by kernel_rfl) fun K hK=>?_
           refine EM 2 9 0 (0+Wv aG*1) (.c (Wu a2 eB.length a3)) vp ya rfl rfl (by rfl) (by rfl) rfl rfl n5 rfl (by kernel_rfl) (EY (sz:=1) rfl cq mp) fun aa1 vq yb=>?_
           have n8:Ag b8 cc (bb.take (0+Wv aG*1+0)++([.slice a2 eB.length a3]:Wx)++bb.drop (0+Wv aG*1+0+1)):=by rw [qa]; exact Mt (sz:=1) rfl cq mp ((Ad yn):rep b8 (eB:List Int) _)
           have pv:aM.length=cc.length:=by rw [qa]; simp
           have vr:Kn 123 [(s,0),(u,0),(x,0),(y,0),(z,aa+Wv stop*1),(al,0),(am,0),(a9,0),(br,0+Wv aG*1),(bu,0+Wv aG*1)] [(99,.one (.c (.ptr 9 0))),(98,.one (.c (Wu a2 eB.length a3))),(93,.one (.c (Ws aG))),(92,.one (.c (Wu a7 cc.length a8))),(16,.one (.c (.bool (decide (aG<((r_.lB.length:Nat):Int)))))),(15,.one (.c (Ws aG))),(56,.one (.c (Ws aG))),(55,.one (.c (Ws (Wt (((r_.lB.length:Nat):Int)+((r_.lC.length:Nat):Int)))))),(14,.one (.c (Ws bB))),(13,.one (.c (.ptr 6 0))),(12,.one (.c (.ptr 5 0))),(11,.one (.c (Ws bK.fr))),(10,.one (.c (.map (some l)))),(6,.one (.c (.ptr 2 0))),(4,.one (.c (.ptr 1 0))),(3,.one (.c (.ptr 0 0)))] ng:=by rw [← pv]; exact vq
           have bw:Ah ⟨w,h,A6⟩ b8 [(s,0),(u,0),(x,0),(y,0),(z,aa+Wv stop*1),(al,0),(am,0),(a9,0),(br,0+Wv aG*1),(bu,0+Wv aG*1)] [⟨(Wp r_ d m f p g q),some 48⟩,⟨(Wq a ad af ae ag ab ac),some 50⟩,⟨[Wu none 0 0,Wu none 0 0,Wu none 0 0],some 52⟩,⟨[Wu d r_.lA.length m,Ws r_.turn.lo,Ws r_.turn.hi,Wu f r_.lB.length p,Wu g r_.lC.length q,Ws r_.lI,Ws r_.gap,Ws r_.fr,Ws r_.to_,Wu ad a.lD.length af,Wu ae a.lE.length ag,Wu ab a.lC.length ac],some 94⟩,⟨[.map (some l)],none⟩,⟨[Wu ay aA.length a0,Wu az aD.length a1,Wu a7 cc.length a8],some 52⟩,⟨(Wr bU ap au aq av ar aw),some 52⟩,⟨[Ws bL.1.lo,Ws bL.1.hi],some 44⟩,⟨[],none⟩,⟨[],none⟩] [⟨ay,aA.length,a0,3,1,bo,0⟩,⟨az,aD.length,a1,3,1,bq,0⟩,⟨a7,cc.length,a8,29,1,bb.take (0+Wv aG*1+0)++([.slice a2 eB.length a3]:Wx)++bb.drop (0+Wv aG*1+0+1),0⟩,⟨ap,bU.tm.length,au,3,1,b1,0⟩,⟨aq,bU.lE.length,av,3,1,b2,0⟩,⟨ar,bU.lA.length,aw,29,1,b3,0⟩] aa1:=by rw [← pv]; exact yb
           refine hK _ _ ?_
           have vs:Kn 123 [(s,0),(u,0),(x,0),(y,0),(z,aa+Wv stop*1),(al,0),(am,0),(a9,0),(br,0+Wv aG*1),(bu,0+Wv aG*1)] (Dh aG r_ bB bK l) ng:=vr.kp
           refine Em (by kernel_rfl) (XT (Aa (I5 0 1 [100,15,56,55,14,13,12,11,10,6,4,3] ((tB 100 (decide (aG<((r_.lB.length:Nat):Int))))::(tI 15 aG)::(Gk aG r_ bB bK l)) vs (Ay.peek bw.plOk bw 5 8 rfl rfl bs [Wu a2 eB.length a3] (bv _)) (by kernel_rfl) fun ada mi=>?_)))
           refine wf (wC (decide (aG<((r_.lB.length:Nat):Int))) mi (fun l1=>?_) (fun l1=>?_))
           ·
            rw [l1,XW] at an
            refine Am (by kernel_rfl) ?_
            replace bw:=bw.drew
            refine Ao [] [(s,0),(u,0),(x,0),(y,0),(z,aa+Wv stop*1),(al,0),(am,0),(a9,0),(br,0+Wv aG*1),(bu,0+Wv aG*1)] [⟨UB d r_ m f p g q,some 48⟩,⟨OL ad a af ae ag ab ac,some 50⟩,⟨UE,some 52⟩,⟨RN d r_ m f p g q ad a af ae ag ab ac,some 94⟩,⟨[.map (some l)],none⟩,⟨[Wu ay aA.length a0,Wu az aD.length a1,Wu a7 cc.length a8],some 52⟩,⟨Ie ap bU au aq av ar aw,some 52⟩,⟨LR bL,some 44⟩,⟨[Wu a2 eB.length a3],none⟩,⟨[],none⟩] ?_
            refine IX [0,1,2,3,4,5,6,7,8] [8,7,6,5,4,3,2,1,0] [109,108,106,105,103,102,15,56,55,14,13,12,11,10,6,4,3] ((tI 109 aG)::(tS 108 ap bU.tm.length au)::(tI 106 aG)::(tS 105 az aD.length a1)::(tI 103 aG)::(tS 102 ay aA.length a0)::(tI 15 aG)::(Gk aG r_ bB bK l)) (fun _ _ _ _ _ h=>h) mi (Ay.peek bw.plOk bw 5 8 rfl rfl bs [Wu a2 eB.length a3] (bv _)) (by kernel_rfl) (by rfl) (by kernel_rfl) fun adb vu=>?_
            obtain⟨bX,iE,an⟩:=an
            obtain⟨pz,p5,y6⟩:=Ai iE
            have x1:=C1 pz p5
            obtain⟨abx,yx,s1⟩:=GX (sz:=1) rfl ef y6
            obtain rfl:=yx
            obtain⟨cr,dv⟩:=CV bw (i:=3) rfl (b0:=0+Wv aG*1) (Xd (Xe (by decide)) (EY (sz:=1) rfl ef x1))
            have el:=bw.addPlc (b:=cr) (o:=0+Wv aG*1) (cs:=[]) (fun j c hj=>by simp at hj) rfl (by kernel_rfl) (by kernel_rfl)
            have ei:∀ (e:Bh) k c,([Ws bX]:List SC)[k]? = some c→(b1)[0+Wv aG*1+k]? = some (c.den e):=fun e k c hk=>s1 k _ (Ak hk)
            refine Az 9 (aG) [Ws bX] (fun _ _ _ _ _ h=>h) rfl rfl (rfl) rfl (by decide) (by kernel_rfl) (by kernel_rfl) vu (Ay.peek bw.plOk bw 5 8 rfl rfl bs [Wu a2 eB.length a3] (bv _)) (by rfl) (by rfl) (by rfl) dv (by rfl) pz p5 (by kernel_rfl) fun zv (vv:Kn 123 [(s,0),(u,0),(x,0),(y,0),(z,aa+Wv stop*1),(al,0),(am,0),(a9,0),(br,0+Wv aG*1),(bu,0+Wv aG*1),(cr,0+Wv aG*1)] ((tP 110 10 0)::(tI 109 aG)::(tS 108 ap bU.tm.length au)::(tI 106 aG)::(tS 105 az aD.length a1)::(tI 103 aG)::(tS 102 ay aA.length a0)::(tI 15 aG)::(Gk aG r_ bB bK l)) zv)=>?_
            refine IX [10,11,12,13] [13,12,11,10,9,8,7,6,5,4,3,2,1,0] [114,113,111,106,105,103,102,56,55,14,13,12,11,10,6,4,3] ((tI 114 aG)::(tS 113 aq bU.lE.length av)::(tI 111 bX)::(tI 106 aG)::(tS 105 az aD.length a1)::(tI 103 aG)::(tS 102 ay aA.length a0)::(Gk aG r_ bB bK l)) (fun _ _ _ _ _ h=>h) vv (Ay.peek (Ay.peek el.plOk el 5 8 rfl rfl bs [Wu a2 eB.length a3] (bv _)) el 3 10 rfl rfl dv [Ws bX] (ei _)) (by kernel_rfl) (by rfl) (by kernel_rfl) fun add vw=>?_
            obtain⟨dA,kU,an⟩:=an
            obtain⟨p0,p6,y7⟩:=Ai kU
            have x2:=C1 p0 p6
            obtain⟨aby,yy,s2⟩:=GX (sz:=1) rfl eg y7
            obtain rfl:=yy
            obtain⟨di,ey⟩:=CV el (i:=4) rfl (b0:=0+Wv aG*1) (Xd (Xe (by decide)) (EY (sz:=1) rfl eg x2))
            have c6:=el.addPlc (b:=di) (o:=0+Wv aG*1) (cs:=[]) (fun j c hj=>by simp at hj) rfl (by kernel_rfl) (by kernel_rfl)
            have gi:∀ (e:Bh) k c,([Ws dA]:List SC)[k]? = some c→(b2)[0+Wv aG*1+k]? = some (c.den e):=fun e k c hk=>s2 k _ (Ak hk)
            refine Az 14 (aG) [Ws dA] (fun _ _ _ _ _ h=>h) rfl rfl (rfl) rfl (by decide) (by kernel_rfl) (by kernel_rfl) vw (Ay.peek (Ay.peek el.plOk el 5 8 rfl rfl bs [Wu a2 eB.length a3] (bv _)) el 3 10 rfl rfl dv [Ws bX] (ei _)) (by rfl) (by rfl) (by rfl) ey (by rfl) p0 p6 (by kernel_rfl) fun zw (vy:Kn 123 [(s,0),(u,0),(x,0),(y,0),(z,aa+Wv stop*1),(al,0),(am,0),(a9,0),(br,0+Wv aG*1),(bu,0+Wv aG*1),(cr,0+Wv aG*1),(di,0+Wv aG*1)] ((tP 115 11 0)::(tI 114 aG)::(tS 113 aq bU.lE.length av)::(tI 111 bX)::(tI 106 aG)::(tS 105 az aD.length a1)::(tI 103 aG)::(tS 102 ay aA.length a0)::(Gk aG r_ bB bK l)) zw)=>?_
            refine IX [15] [15,14,13,12,11,10,9,8,7,6,5,4,3,2,1,0] [116,111,106,105,103,102,56,55,14,13,12,11,10,6,4,3] ((tI 116 dA)::(tI 111 bX)::(tI 106 aG)::(tS 105 az aD.length a1)::(tI 103 aG)::(tS 102 ay aA.length a0)::(Gk aG r_ bB bK l)) (fun _ _ _ _ _ h=>h) vy (Ay.peek (Ay.peek (Ay.peek c6.plOk c6 5 8 rfl rfl bs [Wu a2 eB.length a3] (bv _)) c6 3 10 rfl rfl dv [Ws bX] (ei _)) c6 4 11 rfl rfl ey [Ws dA] (gi _)) (by kernel_rfl) (by rfl) (by kernel_rfl) fun ade vz=>?_
            obtain⟨x117,ex117,an⟩:=an
            obtain⟨p1,p7,y8⟩:=Ai ex117
            have mq:=C1 p1 p7
            obtain⟨abz,yz,ab3⟩:=GX (sz:=1) rfl b9 y8
            obtain rfl:=yz
            obtain⟨d6,n6⟩:=CV c6 (i:=0) rfl (b0:=0+Wv aG*1) (Xd (Xe (by decide)) (EY (sz:=1) rfl b9 mq))
            have yc:=c6.addPlc (b:=d6) (o:=0+Wv aG*1) (cs:=[]) (fun j c hj=>by simp at hj) rfl (by kernel_rfl) (by kernel_rfl)
            have ab4:∀ (e:Bh) k c,([]:List SC)[k]? = some c→(bo)[0+Wv aG*1+k]? = some (c.den e):=fun e k c hk=>by simp at hk
            refine Az 16 (aG) [] (fun _ _ _ _ _ h=>h) rfl rfl (rfl) rfl (by decide) (by kernel_rfl) (by kernel_rfl) vz (Ay.peek (Ay.peek (Ay.peek c6.plOk c6 5 8 rfl rfl bs [Wu a2 eB.length a3] (bv _)) c6 3 10 rfl rfl dv [Ws bX] (ei _)) c6 4 11 rfl rfl ey [Ws dA] (gi _)) (by rfl) (by rfl) (by rfl) n6 (by rfl) p1 p7 (by kernel_rfl) fun qr (v2:Kn 123 [(s,0),(u,0),(x,0),(y,0),(z,aa+Wv stop*1),(al,0),(am,0),(a9,0),(br,0+Wv aG*1),(bu,0+Wv aG*1),(cr,0+Wv aG*1),(di,0+Wv aG*1),(d6,0+Wv aG*1)] ((tP 117 12 0)::(tI 116 dA)::(tI 111 bX)::(tI 106 aG)::(tS 105 az aD.length a1)::(tI 103 aG)::(tS 102 ay aA.length a0)::(Gk aG r_ bB bK l)) qr)=>?_
            obtain⟨c8,ro,an⟩:=an
            obtain⟨ab7,aca,qb⟩:=Er ro
            refine Dl 17 fun K hK=>?_
            refine EM 0 12 0 (0+Wv aG*1) (.c (Ws bX)) v2 yc rfl rfl (by rfl) (by rfl) rfl rfl n6 rfl (by kernel_rfl) (EY (sz:=1) rfl b9 mq) fun aa2 v3 yd=>?_
            have s3:Ag b8 c8 (bo.take (0+Wv aG*1+0)++([.int .i64 bX]:Wx)++bo.drop (0+Wv aG*1+0+1)):=by rw [qb]; exact Mt (sz:=1) rfl b9 mq (Ac:rep b8 (bX:Int) _)
            have m3:aA.length=c8.length:=by rw [qb]; simp
            have v4:Kn 123 [(s,0),(u,0),(x,0),(y,0),(z,aa+Wv stop*1),(al,0),(am,0),(a9,0),(br,0+Wv aG*1),(bu,0+Wv aG*1),(cr,0+Wv aG*1),(di,0+Wv aG*1),(d6,0+Wv aG*1)] [(117,.one (.c (.ptr 12 0))),(116,.one (.c (Ws dA))),(111,.one (.c (Ws bX))),(106,.one (.c (Ws aG))),(105,.one (.c (Wu az aD.length a1))),(103,.one (.c (Ws aG))),(102,.one (.c (Wu ay c8.length a0))),(56,.one (.c (Ws aG))),(55,.one (.c (Ws (Wt (((r_.lB.length:Nat):Int)+((r_.lC.length:Nat):Int)))))),(14,.one (.c (Ws bB))),(13,.one (.c (.ptr 6 0))),(12,.one (.c (.ptr 5 0))),(11,.one (.c (Ws bK.fr))),(10,.one (.c (.map (some l)))),(6,.one (.c (.ptr 2 0))),(4,.one (.c (.ptr 1 0))),(3,.one (.c (.ptr 0 0)))] qr:=by rw [← m3]; exact v3
            have c7:Ah ⟨w,h,A6⟩ b8 [(s,0),(u,0),(x,0),(y,0),(z,aa+Wv stop*1),(al,0),(am,0),(a9,0),(br,0+Wv aG*1),(bu,0+Wv aG*1),(cr,0+Wv aG*1),(di,0+Wv aG*1),(d6,0+Wv aG*1)] [⟨(Wp r_ d m f p g q),some 48⟩,⟨(Wq a ad af ae ag ab ac),some 50⟩,⟨[Wu none 0 0,Wu none 0 0,Wu none 0 0],some 52⟩,⟨[Wu d r_.lA.length m,Ws r_.turn.lo,Ws r_.turn.hi,Wu f r_.lB.length p,Wu g r_.lC.length q,Ws r_.lI,Ws r_.gap,Ws r_.fr,Ws r_.to_,Wu ad a.lD.length af,Wu ae a.lE.length ag,Wu ab a.lC.length ac],some 94⟩,⟨[.map (some l)],none⟩,⟨[Wu ay c8.length a0,Wu az aD.length a1,Wu a7 cc.length a8],some 52⟩,⟨(Wr bU ap au aq av ar aw),some 52⟩,⟨[Ws bL.1.lo,Ws bL.1.hi],some 44⟩,⟨[],none⟩,⟨[],none⟩,⟨[],none⟩,⟨[],none⟩,⟨[],none⟩] [⟨ay,c8.length,a0,3,1,bo.take (0+Wv aG*1+0)++([.int .i64 bX]:Wx)++bo.drop (0+Wv aG*1+0+1),0⟩,⟨az,aD.length,a1,3,1,bq,0⟩,⟨a7,cc.length,a8,29,1,bb.take (0+Wv aG*1+0)++([.slice a2 eB.length a3]:Wx)++bb.drop (0+Wv aG*1+0+1),0⟩,⟨ap,bU.tm.length,au,3,1,b1,0⟩,⟨aq,bU.lE.length,av,3,1,b2,0⟩,⟨ar,bU.lA.length,aw,29,1,b3,0⟩] aa2:=by rw [← m3]; exact yd
            try rw [m3] at hK
            refine hK _ _ (Ay.peek (Ay.peek (Ay.peek c7.plOk c7 5 8 rfl rfl bs [Wu a2 eB.length a3] (bv _)) c7 3 10 rfl rfl dv [Ws bX] (ei _)) c7 4 11 rfl rfl ey [Ws dA] (gi _)) ?_
            obtain⟨x118,ex118,an⟩:=an
            obtain⟨p2,p8,y9⟩:=Ai ex118
            have mr:=C1 p2 p8
            obtain⟨ab0,y1,s4⟩:=GX (sz:=1) rfl ca y9
            obtain rfl:=y1
            obtain⟨g8,n7⟩:=CV c7 (i:=1) rfl (b0:=0+Wv aG*1) (Xd (Xe (by decide)) (EY (sz:=1) rfl ca mr))
            have ye:=c7.addPlc (b:=g8) (o:=0+Wv aG*1) (cs:=[]) (fun j c hj=>by simp at hj) rfl (by kernel_rfl) (by kernel_rfl)
            have ab5:∀ (e:Bh) k c,([Ws x118]:List SC)[k]? = some c→(bq)[0+Wv aG*1+k]? = some (c.den e):=fun e k c hk=>s4 k _ (Ak hk)
            refine Az 18 (aG) [Ws x118] (fun _ _ _ _ _ h=>h) rfl rfl (rfl) rfl (by decide) (by kernel_rfl) (by kernel_rfl) v4 (Ay.peek (Ay.peek (Ay.peek c7.plOk c7 5 8 rfl rfl bs [Wu a2 eB.length a3] (bv _)) c7 3 10 rfl rfl dv [Ws bX] (ei _)) c7 4 11 rfl rfl ey [Ws dA] (gi _)) (by rfl) (by rfl) (by rfl) n7 (by rfl) p2 p8 (by kernel_rfl) fun nh (v5:Kn 123 [(s,0),(u,0),(x,0),(y,0),(z,aa+Wv stop*1),(al,0),(am,0),(a9,0),(br,0+Wv aG*1),(bu,0+Wv aG*1),(cr,0+Wv aG*1),(di,0+Wv aG*1),(d6,0+Wv aG*1),(g8,0+Wv aG*1)] ((tP 118 13 0)::(tP 117 12 0)::(tI 116 dA)::(tI 111 bX)::(tI 106 aG)::(tS 105 az aD.length a1)::(tI 103 aG)::(tS 102 ay c8.length a0)::(Gk aG r_ bB bK l)) nh)=>?_
            obtain⟨gv,rp,an⟩:=an
            obtain⟨ab8,acb,qc⟩:=Er rp
            refine Cq 19 rfl (by kernel_rfl) (by decide) (rfl) (by kernel_rfl) fun K hK=>?_
            refine EM 1 13 0 (0+Wv aG*1) (.c (Ws dA)) v5 ye rfl rfl (by rfl) (by rfl) rfl rfl n7 rfl (by kernel_rfl) (EY (sz:=1) rfl ca mr) fun aa3 v6 yf=>?_
            have s5:Ag b8 gv (bq.take (0+Wv aG*1+0)++([.int .i64 dA]:Wx)++bq.drop (0+Wv aG*1+0+1)):=by rw [qc]; exact Mt (sz:=1) rfl ca mr (Ac:rep b8 (dA:Int) _)
            have pw:aD.length=gv.length:=by rw [qc]; simp
            have v7:Kn 123 [(s,0),(u,0),(x,0),(y,0),(z,aa+Wv stop*1),(al,0),(am,0),(a9,0),(br,0+Wv aG*1),(bu,0+Wv aG*1),(cr,0+Wv aG*1),(di,0+Wv aG*1),(d6,0+Wv aG*1),(g8,0+Wv aG*1)] [(118,.one (.c (.ptr 13 0))),(117,.one (.c (.ptr 12 0))),(116,.one (.c (Ws dA))),(111,.one (.c (Ws bX))),(106,.one (.c (Ws aG))),(105,.one (.c (Wu az gv.length a1))),(103,.one (.c (Ws aG))),(102,.one (.c (Wu ay c8.length a0))),(56,.one (.c (Ws aG))),(55,.one (.c (Ws (Wt (((r_.lB.length:Nat):Int)+((r_.lC.length:Nat):Int)))))),(14,.one (.c (Ws bB))),(13,.one (.c (.ptr 6 0))),(12,.one (.c (.ptr 5 0))),(11,.one (.c (Ws bK.fr))),(10,.one (.c (.map (some l)))),(6,.one (.c (.ptr 2 0))),(4,.one (.c (.ptr 1 0))),(3,.one (.c (.ptr 0 0)))] nh:=by rw [← pw]; exact v6
            have dy:Ah ⟨w,h,A6⟩ b8 [(s,0),(u,0),(x,0),(y,0),(z,aa+Wv stop*1),(al,0),(am,0),(a9,0),(br,0+Wv aG*1),(bu,0+Wv aG*1),(cr,0+Wv aG*1),(di,0+Wv aG*1),(d6,0+Wv aG*1),(g8,0+Wv aG*1)] [⟨(Wp r_ d m f p g q),some 48⟩,⟨(Wq a ad af ae ag ab ac),some 50⟩,⟨[Wu none 0 0,Wu none 0 0,Wu none 0 0],some 52⟩,⟨[Wu d r_.lA.length m,Ws r_.turn.lo,Ws r_.turn.hi,Wu f r_.lB.length p,Wu g r_.lC.length q,Ws r_.lI,Ws r_.gap,Ws r_.fr,Ws r_.to_,Wu ad a.lD.length af,Wu ae a.lE.length ag,Wu ab a.lC.length ac],some 94⟩,⟨[.map (some l)],none⟩,⟨[Wu ay c8.length a0,Wu az gv.length a1,Wu a7 cc.length a8],some 52⟩,⟨(Wr bU ap au aq av ar aw),some 52⟩,⟨[Ws bL.1.lo,Ws bL.1.hi],some 44⟩,⟨[],none⟩,⟨[],none⟩,⟨[],none⟩,⟨[],none⟩,⟨[],none⟩,⟨[],none⟩] [⟨ay,c8.length,a0,3,1,bo.take (0+Wv aG*1+0)++([.int .i64 bX]:Wx)++bo.drop (0+Wv aG*1+0+1),0⟩,⟨az,gv.length,a1,3,1,bq.take (0+Wv aG*1+0)++([.int .i64 dA]:Wx)++bq.drop (0+Wv aG*1+0+1),0⟩,⟨a7,cc.length,a8,29,1,bb.take (0+Wv aG*1+0)++([.slice a2 eB.length a3]:Wx)++bb.drop (0+Wv aG*1+0+1),0⟩,⟨ap,bU.tm.length,au,3,1,b1,0⟩,⟨aq,bU.lE.length,av,3,1,b2,0⟩,⟨ar,bU.lA.length,aw,29,1,b3,0⟩] aa3:=by rw [← pw]; exact yf
            refine hK _ _ ?_
            have v8:Kn 123 [(s,0),(u,0),(x,0),(y,0),(z,aa+Wv stop*1),(al,0),(am,0),(a9,0),(br,0+Wv aG*1),(bu,0+Wv aG*1),(cr,0+Wv aG*1),(di,0+Wv aG*1),(d6,0+Wv aG*1),(g8,0+Wv aG*1)] (Gk aG r_ bB bK l) nh:=v7.kp
            refine Em (by kernel_rfl) (Aa (I5 0 3 [14,56,55,13,12,11,10,6,4,3] ((tI 14 (Wt (bB+1)))::(tI 56 aG)::(tI 55 (Wt (((r_.lB.length:Nat):Int)+((r_.lC.length:Nat):Int))))::(tP 13 6 0)::(tP 12 5 0)::(B0 bK l)) v8 (Ay.peek (Ay.peek (Ay.peek dy.plOk dy 5 8 rfl rfl bs [Wu a2 eB.length a3] (bv _)) dy 3 10 rfl rfl dv [Ws bX] (ei _)) dy 4 11 rfl rfl ey [Ws dA] (gi _)) (by kernel_rfl) fun adf v9=>?_))
            refine wf (Aa (I5 0 2 [56,14,55,13,12,11,10,6,4,3] ((tI 56 (Wt (aG+1)))::(tI 14 (Wt (bB+1)))::(tI 55 (Wt (((r_.lB.length:Nat):Int)+((r_.lC.length:Nat):Int))))::(tP 13 6 0)::(tP 12 5 0)::(B0 bK l)) v9 (Ay.peek (Ay.peek (Ay.peek dy.plOk dy 5 8 rfl rfl bs [Wu a2 eB.length a3] (bv _)) dy 3 10 rfl rfl dv [Ws bX] (ei _)) dy 4 11 rfl rfl ey [Ws dA] (gi _)) (by kernel_rfl) fun adg wd=>?_))
            refine wf ?_
            exact XY gu ⟨Xc _,XY c8 ⟨gv,cc,Wt (aG+1),Wt (bB+1),ay,a0,bo.take (0+Wv aG*1+0)++([.int .i64 bX]:Wx)++bo.drop (0+Wv aG*1+0+1),az,a1,bq.take (0+Wv aG*1+0)++([.int .i64 dA]:Wx)++bq.drop (0+Wv aG*1+0+1),a7,a8,bb.take (0+Wv aG*1+0)++([.slice a2 eB.length a3]:Wx)++bb.drop (0+Wv aG*1+0+1),_,_,rfl,(wd.keep [56,55,14,13,12,11,10,6,4,3] (by rfl)).cut 7 (by kernel_rfl),dy.cutPl 7 (by kernel_rfl),XU bt (XU bp cz),s3,s5,n8,an⟩⟩
           ·
            rw [l1,XV] at an
            refine wp_skip (Aa (I5 0 3 [14,56,55,13,12,11,10,6,4,3] ((tI 14 (Wt (bB+1)))::(tI 56 aG)::(tI 55 (Wt (((r_.lB.length:Nat):Int)+((r_.lC.length:Nat):Int))))::(tP 13 6 0)::(tP 12 5 0)::(B0 bK l)) mi (Ay.peek bw.plOk bw 5 8 rfl rfl bs [Wu a2 eB.length a3] (bv _)) (by kernel_rfl) fun adh we=>?_))
            refine wf (Aa (I5 0 2 [56,14,55,13,12,11,10,6,4,3] ((tI 56 (Wt (aG+1)))::(tI 14 (Wt (bB+1)))::(tI 55 (Wt (((r_.lB.length:Nat):Int)+((r_.lC.length:Nat):Int))))::(tP 13 6 0)::(tP 12 5 0)::(B0 bK l)) we (Ay.peek bw.plOk bw 5 8 rfl rfl bs [Wu a2 eB.length a3] (bv _)) (by kernel_rfl) fun adi wg=>?_))
            refine wf ?_
            exact XY gu ⟨Xc _,XY aA ⟨aD,cc,Wt (aG+1),Wt (bB+1),ay,a0,bo,az,a1,bq,a7,a8,bb.take (0+Wv aG*1+0)++([.slice a2 eB.length a3]:Wx)++bb.drop (0+Wv aG*1+0+1),_,_,rfl,(wg.keep [56,55,14,13,12,11,10,6,4,3] (by rfl)).cut 7 (by kernel_rfl),bw.cutPl 7 (by kernel_rfl),XU bt (XU bp cz),b9,ca,n8,an⟩⟩
          ·
           rw [l0,XV] at an
           refine wp_skip (Aa (Rk 0 3 ((tI 14 (Wt (bB+1)))::(tI 56 aG)::(tI 55 (Wt (((r_.lB.length:Nat):Int)+((r_.lC.length:Nat):Int))))::(tP 13 6 0)::(tP 12 5 0)::(B0 bK l)) mh dx fun adj wh=>?_))
           refine wf (Aa (Rk 0 2 ((tI 56 (Wt (aG+1)))::(tI 14 (Wt (bB+1)))::(tI 55 (Wt (((r_.lB.length:Nat):Int)+((r_.lC.length:Nat):Int))))::(tP 13 6 0)::(tP 12 5 0)::(B0 bK l)) wh dx fun adk wi=>?_))
           refine wf ?_
           exact XY gu ⟨Xc _,XY aA ⟨aD,aM,Wt (aG+1),Wt (bB+1),ay,a0,bo,az,a1,bq,a7,a8,bb,_,_,rfl,(wi.keep [56,55,14,13,12,11,10,6,4,3] (by rfl)).cut 7 (by kernel_rfl),dx.cutPl 7 (by kernel_rfl),XU bt (XU bp cz),b9,ca,cq,an⟩⟩
      ·
       rw [ly,XV] at an
       refine wp_exit ?_
       exact XY (aA,aD,aM) ⟨ay,a0,bo,az,a1,bq,a7,a8,bb,_,_,rfl,mf.kp,dw,bt,b9,ca,cq,an⟩
    ·
     rintro _ aer ⟨ao,bc,bi,dz,bd,bj,en,be,bk,e2,nb,gd,rfl,wj,pb,x3,l4,l5,l6,H⟩
     rw [rq] at H
     replace ah:=x3 _ _ _ ah
     refine XT (Aa (Rk 0 1 [tA 122 (Pb bc ao bi bd bj be bk),tP 6 2 0] wj pb fun adl wk=>?_))
     refine wl fun K hK=>?_
     refine EZ 2 0 (.agg (Pb bc ao bi bd bj be bk)) (Pb bc ao bi bd bj be bk) wk pb fun nw wm mv=>hK _ _ ?_
     refine Rk 2 1 [tI 7 0,tP 6 2 0] wm mv fun adm wo=>?_
     refine wf (wp_ret ?_)
     obtain⟨n2,kz,yq,k7⟩:=mv.settle (i:=0) rfl
     replace l4:=l4.mono kz
     replace ah:=kz _ _ _ ah
     replace k7:Ah ⟨w,h,A6⟩ n2 (E0 s u x y z aa stop al am) [⟨UB d r_ m f p g q,some 48⟩,⟨OL ad a af ae ag ab ac,some 50⟩,⟨Pb bc ao bi bd bj be bk,some 52⟩,⟨RN d r_ m f p g q ad a af ae ag ab ac,some 94⟩,⟨[.map (some l)],none⟩,⟨Pb bc ao bi bd bj be bk,some 52⟩,⟨Ie ap bU au aq av ar aw,some 52⟩] [⟨bc,ao.1.length,bi,3,1,dz,(dz:Wx).length⟩,⟨bd,ao.2.1.length,bj,3,1,en,0⟩,⟨be,ao.2.2.length,bk,29,1,e2,0⟩,⟨ap,bU.tm.length,au,3,1,b1,0⟩,⟨aq,bU.lE.length,av,3,1,b2,0⟩,⟨ar,bU.lA.length,aw,29,1,b3,0⟩] nw:=k7
     have m4:A4 n2 bc bi ao.1:=⟨_,l4,yq,mv.rowCap (i:=0) rfl⟩
     obtain⟨n3,k0,yr,k8⟩:=k7.settle (i:=1) rfl
     replace l5:=l5.mono (XU kz k0)
     replace ah:=k0 _ _ _ ah
     replace k8:Ah ⟨w,h,A6⟩ n3 (E0 s u x y z aa stop al am) [⟨UB d r_ m f p g q,some 48⟩,⟨OL ad a af ae ag ab ac,some 50⟩,⟨Pb bc ao bi bd bj be bk,some 52⟩,⟨RN d r_ m f p g q ad a af ae ag ab ac,some 94⟩,⟨[.map (some l)],none⟩,⟨Pb bc ao bi bd bj be bk,some 52⟩,⟨Ie ap bU au aq av ar aw,some 52⟩] [⟨bc,ao.1.length,bi,3,1,dz,(dz:Wx).length⟩,⟨bd,ao.2.1.length,bj,3,1,en,(en:Wx).length⟩,⟨be,ao.2.2.length,bk,29,1,e2,0⟩,⟨ap,bU.tm.length,au,3,1,b1,0⟩,⟨aq,bU.lE.length,av,3,1,b2,0⟩,⟨ar,bU.lA.length,aw,29,1,b3,0⟩] nw:=k8
     have m5:A4 n3 bd bj ao.2.1:=⟨_,l5,yr,k7.rowCap (i:=1) rfl⟩
     obtain⟨lv,k1,ys,mw⟩:=k8.settle (i:=2) rfl
     replace m4:=m4.mono (XU k0 k1)
     replace m5:=m5.mono k1
     replace l6:=l6.mono (XU (XU kz k0) k1)
     replace ah:=k1 _ _ _ ah
     replace mw:Ah ⟨w,h,A6⟩ lv (E0 s u x y z aa stop al am) [⟨UB d r_ m f p g q,some 48⟩,⟨OL ad a af ae ag ab ac,some 50⟩,⟨Pb bc ao bi bd bj be bk,some 52⟩,⟨RN d r_ m f p g q ad a af ae ag ab ac,some 94⟩,⟨[.map (some l)],none⟩,⟨Pb bc ao bi bd bj be bk,some 52⟩,⟨Ie ap bU au aq av ar aw,some 52⟩] [⟨bc,ao.1.length,bi,3,1,dz,(dz:Wx).length⟩,⟨bd,ao.2.1.length,bj,3,1,en,(en:Wx).length⟩,⟨be,ao.2.2.length,bk,29,1,e2,(e2:Wx).length⟩,⟨ap,bU.tm.length,au,3,1,b1,0⟩,⟨aq,bU.lE.length,av,3,1,b2,0⟩,⟨ar,bU.lA.length,aw,29,1,b3,0⟩] nw:=mw
     have yo:A4 lv be bk ao.2.2:=⟨_,l6,ys,k8.rowCap (i:=2) rfl⟩
     exact rt (.tup [.agg (Pb bc ao bi bd bj be bk),.c (Ws 0)]) wo mw ⟨_,H,⟨_,_,rfl,⟨_,rfl,((Ab (Ad m4) (Ab (Ad m5) (Ad yo))):rep lv ((Ap.mk ao.1 ao.2.1 ao.2.2):Ap) _)⟩,rfl⟩⟩
   refine Bc (fun W=>∀ (d7:Nat),∀ (fc:Ww),∀ (fx:Nat),∀ (hu:Wx),∀ (fd:Ww),∀ (fy:Nat),∀ (hv:Wx),∀ (fe:Ww),∀ (fz:Nat),∀ (hw:Wx),∀ (ff:Ww),∀ (f0:Nat),∀ (hx:Wx),∀ (fg:Ww),∀ (f1:Nat),∀ (hy:Wx),∀ (fh:Ww),∀ (f2:Nat),∀ (hz:Wx),∀ a' w',(∃ (ni:Array Value)(cv:Ae),a' = ⟨ni,[]⟩∧Kn 123 [(s,0),(u,0),(x,0),(y,0),(z,aa+Wv stop*1),(d7,0),(0,0)] ((tP 12 5 0)::(tA 48 (Wr bU ff f0 fg f1 fh f2))::(tA 45 (Wr aZ fc fx fd fy fe fz))::(B0 bK l)) ni∧Ah ⟨w,h,A6⟩ cv [(s,0),(u,0),(x,0),(y,0),(z,aa+Wv stop*1),(d7,0),(0,0)] (GE d r_ m f p g q ad a af ae ag ab ac l) [⟨fc,aZ.tm.length,fx,3,1,hu,0⟩,⟨fd,aZ.lE.length,fy,3,1,hv,0⟩,⟨fe,aZ.lA.length,fz,29,1,hw,0⟩,⟨ff,bU.tm.length,f0,3,1,hx,0⟩,⟨fg,bU.lE.length,f1,3,1,hy,0⟩,⟨fh,bU.lA.length,f2,29,1,hz,0⟩] w'∧Ae.le ax cv∧Ag cv aZ.tm hu∧Ag cv aZ.lE hv∧Ag cv aZ.lA hw∧Ag cv bU.tm hx∧Ag cv bU.lE hy∧Ag cv bU.lA hz)→W [(s,0),(u,0),(x,0),(y,0),(z,aa+Wv stop*1),(d7,0),(0,0)] (ID d r_ m f p g q ad a af ae ag ab ac l) [5,2,3,6,4,1,0] a' w') ?_ (fun qd=>?_)
   ·
    intro d7 fc fx hu fd fy hv fe fz hw ff f0 hx fg f1 hy fh f2 hz
    rintro _ aes ⟨ni,cv,rfl,wq,yg,oy,s6,s7,s8,s9,ta,tb⟩
    replace ah:=oy _ _ _ ah
    refine Dl 7 fun K hK=>?_
    refine JF 6 UE wq yg fun jg zy aa4 (wr:Kn 123 [(s,0),(u,0),(x,0),(y,0),(z,aa+Wv stop*1),(d7,0),(jg,0)] ((tP 13 6 0)::(tP 12 5 0)::(tA 48 (Wr bU ff f0 fg f1 fh f2))::(tA 45 (Wr aZ fc fx fd fy fe fz))::(B0 bK l)) zy) (pc:Ah ⟨w,h,A6⟩ cv [(s,0),(u,0),(x,0),(y,0),(z,aa+Wv stop*1),(d7,0),(jg,0)] (E2 d r_ m f p g q ad a af ae ag ab ac l) [⟨fc,aZ.tm.length,fx,3,1,hu,0⟩,⟨fd,aZ.lE.length,fy,3,1,hv,0⟩,⟨fe,aZ.lA.length,fz,29,1,hw,0⟩,⟨ff,bU.tm.length,f0,3,1,hx,0⟩,⟨fg,bU.lE.length,f1,3,1,hy,0⟩,⟨fh,bU.lA.length,f2,29,1,hz,0⟩] aa4)=>hK _ _ (Ay.unset 6 rfl (by kernel_rfl) (Ay.forget [5] pc.plOk)) (Cf (e':=[(s,0),(u,0),(x,0),(y,0),(z,aa+Wv stop*1),(d7,0),(jg,0)]) (pl':=(Fh d r_ m f p g q ad a af ae ag ab ac l)) (fun _ hp=>hp.unset 6 rfl (by kernel_rfl)) ?_)
    refine Ax [5,2,3,6,7,4,1,0] (by kernel_rfl) (by rfl) (m6 d7 jg fc fx hu fd fy hv fe fz hw ff f0 hx fg f1 hy fh f2 hz _ _ ?_)
    exact XY _ ⟨_,rfl,wr.kp,pc,oy,s6,s7,s8,s9,ta,tb⟩
   refine Bc (fun W=>∀ (d8:Nat),∀ (fi:Ww),∀ (f3:Nat),∀ (h0:Wx),∀ (fj:Ww),∀ (f4:Nat),∀ (h1:Wx),∀ (fk:Ww),∀ (f5:Nat),∀ (h3:Wx),∀ (fl:Ww),∀ (f6:Nat),∀ (h4:Wx),∀ (fm:Ww),∀ (f7:Nat),∀ (h5:Wx),∀ (fn:Ww),∀ (f8:Nat),∀ (h6:Wx),∀ a' w',(∃ (nj:Array Value)(cw:Ae),a' = ⟨nj,[]⟩∧Kn 123 [(s,0),(u,0),(x,0),(y,0),(z,aa+Wv stop*1),(0,0),(d8,0)] ((tP 13 6 0)::(tA 48 (Wr bU fl f6 fm f7 fn f8))::(tA 45 (Wr aZ fi f3 fj f4 fk f5))::(B0 bK l)) nj∧Ah ⟨w,h,A6⟩ cw [(s,0),(u,0),(x,0),(y,0),(z,aa+Wv stop*1),(0,0),(d8,0)] (D7 d r_ m f p g q ad a af ae ag ab ac l) [⟨fi,aZ.tm.length,f3,3,1,h0,0⟩,⟨fj,aZ.lE.length,f4,3,1,h1,0⟩,⟨fk,aZ.lA.length,f5,29,1,h3,0⟩,⟨fl,bU.tm.length,f6,3,1,h4,0⟩,⟨fm,bU.lE.length,f7,3,1,h5,0⟩,⟨fn,bU.lA.length,f8,29,1,h6,0⟩] w'∧Ae.le ax cw∧Ag cw aZ.tm h0∧Ag cw aZ.lE h1∧Ag cw aZ.lA h3∧Ag cw bU.tm h4∧Ag cw bU.lE h5∧Ag cw bU.lA h6)→W [(s,0),(u,0),(x,0),(y,0),(z,aa+Wv stop*1),(0,0),(d8,0)] (D7 d r_ m f p g q ad a af ae ag ab ac l) [5,2,3,7,4,1,0] a' w') ?_ (fun qe=>?_)
   ·
    intro d8 fi f3 h0 fj f4 h1 fk f5 h3 fl f6 h4 fm f7 h5 fn f8 h6
    rintro _ aeu ⟨nj,cw,rfl,wt,yh,oz,tc,td,te,tf,tg,th⟩
    replace ah:=oz _ _ _ ah
    refine Dl 6 fun K hK=>?_
    refine JF 5 UE wt yh fun jh zz aa5 (wv:Kn 123 [(s,0),(u,0),(x,0),(y,0),(z,aa+Wv stop*1),(jh,0),(d8,0)] ((tP 12 5 0)::(tP 13 6 0)::(tA 48 (Wr bU fl f6 fm f7 fn f8))::(tA 45 (Wr aZ fi f3 fj f4 fk f5))::(B0 bK l)) zz) (pd:Ah ⟨w,h,A6⟩ cw [(s,0),(u,0),(x,0),(y,0),(z,aa+Wv stop*1),(jh,0),(d8,0)] (E2 d r_ m f p g q ad a af ae ag ab ac l) [⟨fi,aZ.tm.length,f3,3,1,h0,0⟩,⟨fj,aZ.lE.length,f4,3,1,h1,0⟩,⟨fk,aZ.lA.length,f5,29,1,h3,0⟩,⟨fl,bU.tm.length,f6,3,1,h4,0⟩,⟨fm,bU.lE.length,f7,3,1,h5,0⟩,⟨fn,bU.lA.length,f8,29,1,h6,0⟩] aa5)=>hK _ _ (Ay.unset 5 rfl (by kernel_rfl) (Ay.forget [5] pd.plOk)) (Cf (e':=[(s,0),(u,0),(x,0),(y,0),(z,aa+Wv stop*1),(jh,0),(d8,0)]) (pl':=(Fh d r_ m f p g q ad a af ae ag ab ac l)) (fun _ hp=>hp.unset 5 rfl (by kernel_rfl)) ?_)
    refine Ax [5,2,3,6,7,4,1,0] (by kernel_rfl) (by rfl) (m6 jh d8 fi f3 h0 fj f4 h1 fk f5 h3 fl f6 h4 fm f7 h5 fn f8 h6 _ _ ?_)
    exact XY _ ⟨_,rfl,wv.kp,pd,oz,tc,td,te,tf,tg,th⟩
   refine Bc (fun W=>∀ (eo:Nat),∀ (ep:Nat),∀ (fo:Ww),∀ (f9:Nat),∀ (h7:Wx),∀ (fp:Ww),∀ (ga:Nat),∀ (h8:Wx),∀ (fq:Ww),∀ (gb:Nat),∀ (h9:Wx),∀ a' w',(∃ (nk:Array Value)(du:Ae),a' = ⟨nk,[]⟩∧Kn 123 [(s,0),(u,0),(x,0),(y,0),(z,aa+Wv stop*1),(eo,0),(ep,0)] ((tP 13 6 0)::(tP 12 5 0)::(tA 46 (UB d r_ m f p g q))::(tA 45 (Wr aZ fo f9 fp ga fq gb))::(tA 47 [.func (.func 56) #[] #[]])::(B0 bK l)) nk∧Ah ⟨w,h,A6⟩ du [(s,0),(u,0),(x,0),(y,0),(z,aa+Wv stop*1),(eo,0),(ep,0)] (E2 d r_ m f p g q ad a af ae ag ab ac l) [⟨fo,aZ.tm.length,f9,3,1,h7,0⟩,⟨fp,aZ.lE.length,ga,3,1,h8,0⟩,⟨fq,aZ.lA.length,gb,29,1,h9,0⟩] w'∧Ae.le ax du∧Ag du aZ.tm h7∧Ag du aZ.lE h8∧Ag du aZ.lA h9)→W [(s,0),(u,0),(x,0),(y,0),(z,aa+Wv stop*1),(eo,0),(ep,0)] (Fh d r_ m f p g q ad a af ae ag ab ac l) [2,3,6,7,4,1,0] a' w') ?_ (fun ll=>?_)
   ·
    intro eo ep fo f9 h7 fp ga h8 fq gb h9
    rintro _ aev ⟨nk,du,rfl,ww,pf,hf,l7,l8,l9⟩
    replace ai:=ai.mono hf
    replace aj:=aj.mono hf
    replace ak:=ak.mono hf
    replace ah:=hf _ _ _ ah
    refine Dl 5 fun K hK=>?_
    refine Es [.agg (UB d r_ m f p g q),.agg [.func (.func 56) #[] #[]]] _ ww pf rfl rfl (by decide) (by rfl) rfl (fun _ _=>by kernel_rfl) (A9 n pf.has r_ ((Ab (Ad ai) (Ab (Ab Ac Ac) (Ab (Ad aj) (Ab (Ad ak) (Ab Ac (Ab Ac (Ab Ac Ac))))))):rep du r_ _) (HJ.mk (fun(y0:Rg)=>Aw n y0)) (⟨_,_,_,rfl,(show QW du (.func (.func 56) #[] #[]) (fun(y0:Rg)=>Aw n y0) from fun h2 w2 hle hh y0 cs0 hy0 r H=>⟨56,_,_,rfl,fun _ _=>by kernel_rfl,C7 n hh y0 hy0 H⟩)⟩:rep du (HJ.mk (fun(y0:Rg)=>Aw n y0)) _) ex48) fun ad2 sb aa6 acf rx hg k9=>?_
    replace l7:=l7.mono hg
    replace l8:=l8.mono hg
    replace l9:=l9.mono hg
    replace ah:=hg _ _ _ ah
    obtain⟨il,j1,qz,im,j2,q0,io,j3,q1,rfl,rfl,ti,tj,tk⟩:=rx
    replace k9:Ah ⟨w,h,A6⟩ sb [(s,0),(u,0),(x,0),(y,0),(z,aa+Wv stop*1),(eo,0),(ep,0)] (E2 d r_ m f p g q ad a af ae ag ab ac l) [⟨fo,aZ.tm.length,f9,3,1,h7,0⟩,⟨fp,aZ.lE.length,ga,3,1,h8,0⟩,⟨fq,aZ.lA.length,gb,29,1,h9,0⟩,⟨il,bU.tm.length,j1,3,1,qz,0⟩,⟨im,bU.lE.length,j2,3,1,q0,0⟩,⟨io,bU.lA.length,j3,29,1,q1,0⟩] aa6:=k9
    refine⟨.one (.agg (Wr bU il j1 im j2 io j3)),rfl,fun z0 (wy:Kn 123 [(s,0),(u,0),(x,0),(y,0),(z,aa+Wv stop*1),(eo,0),(ep,0)] ((tA 48 (Wr bU il j1 im j2 io j3))::(tP 13 6 0)::(tP 12 5 0)::(tA 46 (UB d r_ m f p g q))::(tA 45 (Wr aZ fo f9 fp ga fq gb))::(tA 47 [.func (.func 56) #[] #[]])::(B0 bK l)) z0)=>hK _ _ (Ay.forget [5] k9.plOk) ?_⟩
    refine Ax [5,2,3,6,7,4,1,0] (by kernel_rfl) (by rfl) (m6 eo ep fo f9 h7 fp ga h8 fq gb h9 il j1 qz im j2 q0 io j3 q1 _ _ ?_)
    exact XY _ ⟨_,rfl,wy.kp,k9,XU hf hg,l7,l8,l9,ti,tj,tk⟩
   refine Bc (fun W=>∀ (b4:Nat),∀ (c9:Ww),∀ (dj:Nat),∀ (e3:Wx),∀ (da:Ww),∀ (dk:Nat),∀ (e4:Wx),∀ (db:Ww),∀ (dl:Nat),∀ (e5:Wx),∀ a' w',(∃ (nl:Array Value)(cx:Ae),a' = ⟨nl,[]⟩∧Kn 123 (RT s u x y z aa stop b4) ((tP 12 5 0)::(tA 46 (UB d r_ m f p g q))::(tA 45 (Wr aZ c9 dj da dk db dl))::(tA 47 [.func (.func 56) #[] #[]])::(B0 bK l)) nl∧Ah ⟨w,h,A6⟩ cx (RT s u x y z aa stop b4) (GE d r_ m f p g q ad a af ae ag ab ac l) [⟨c9,aZ.tm.length,dj,3,1,e3,0⟩,⟨da,aZ.lE.length,dk,3,1,e4,0⟩,⟨db,aZ.lA.length,dl,29,1,e5,0⟩] w'∧Ae.le ax cx∧Ag cx aZ.tm e3∧Ag cx aZ.lE e4∧Ag cx aZ.lA e5)→W (RT s u x y z aa stop b4) (ID d r_ m f p g q ad a af ae ag ab ac l) [2,3,6,4,1,0] a' w') ?_ (fun m7=>?_)
   ·
    intro b4 c9 dj e3 da dk e4 db dl e5
    rintro _ aew ⟨nl,cx,rfl,om,mx,c0,ks,kt,ku⟩
    replace ai:=ai.mono c0
    replace aj:=aj.mono c0
    replace ak:=ak.mono c0
    replace a5:=a5.mono c0
    replace a6:=a6.mono c0
    replace a4:=a4.mono c0
    replace ba:=ba.mono c0
    replace ah:=c0 _ _ _ ah
    refine D0 5 7 rfl rfl (by kernel_rfl) (by decide) (rfl) (rfl) (fun K hK=>?_) (fun K hK=>?_)
    ·
     refine Es [.agg (UB d r_ m f p g q),.agg [.func (.func 56) #[] #[]]] _ om mx rfl rfl (by decide) (by rfl) rfl (fun _ _=>by kernel_rfl) (A9 n mx.has r_ ((Ab (Ad ai) (Ab (Ab Ac Ac) (Ab (Ad aj) (Ab (Ad ak) (Ab Ac (Ab Ac (Ab Ac Ac))))))):rep cx r_ _) (HJ.mk (fun(y0:Rg)=>Aw n y0)) (⟨_,_,_,rfl,(show QW cx (.func (.func 56) #[] #[]) (fun(y0:Rg)=>Aw n y0) from fun h2 w2 hle hh y0 cs0 hy0 r H=>⟨56,_,_,rfl,fun _ _=>by kernel_rfl,C7 n hh y0 hy0 H⟩)⟩:rep cx (HJ.mk (fun(y0:Rg)=>Aw n y0)) _) ex48) fun ad4 sc aa7 acg ry hl la=>?_
     replace ks:=ks.mono hl
     replace kt:=kt.mono hl
     replace ku:=ku.mono hl
     replace ah:=hl _ _ _ ah
     obtain⟨ip,j4,q2,iq,j5,q3,ir,j6,q4,rfl,rfl,tl,tn,tp⟩:=ry
     replace la:Ah ⟨w,h,A6⟩ sc (RT s u x y z aa stop b4) (GE d r_ m f p g q ad a af ae ag ab ac l) [⟨c9,aZ.tm.length,dj,3,1,e3,0⟩,⟨da,aZ.lE.length,dk,3,1,e4,0⟩,⟨db,aZ.lA.length,dl,29,1,e5,0⟩,⟨ip,bU.tm.length,j4,3,1,q2,0⟩,⟨iq,bU.lE.length,j5,3,1,q3,0⟩,⟨ir,bU.lA.length,j6,29,1,q4,0⟩] aa7:=la
     refine⟨.one (.agg (Wr bU ip j4 iq j5 ir j6)),rfl,fun z1 (w0:Kn 123 (RT s u x y z aa stop b4) ((tA 48 (Wr bU ip j4 iq j5 ir j6))::(tP 12 5 0)::(tA 46 (UB d r_ m f p g q))::(tA 45 (Wr aZ c9 dj da dk db dl))::(tA 47 [.func (.func 56) #[] #[]])::(B0 bK l)) z1)=>hK _ _ (Ay.forget [5] la.plOk) ?_⟩
     refine Ax [5,2,3,6,4,1,0] (by kernel_rfl) (by rfl) (qd b4 c9 dj e3 da dk e4 db dl e5 ip j4 q2 iq j5 q3 ir j6 q4 _ _ ?_)
     exact XY _ ⟨_,rfl,w0.kp,la,XU c0 hl,ks,kt,ku,tl,tn,tp⟩
    ·
     refine JF 6 UE om mx fun ji z2 aa8 (w1:Kn 123 [(s,0),(u,0),(x,0),(y,0),(z,aa+Wv stop*1),(b4,0),(ji,0)] ((tP 13 6 0)::(tP 12 5 0)::(tA 46 (UB d r_ m f p g q))::(tA 45 (Wr aZ c9 dj da dk db dl))::(tA 47 [.func (.func 56) #[] #[]])::(B0 bK l)) z2) (pg:Ah ⟨w,h,A6⟩ cx [(s,0),(u,0),(x,0),(y,0),(z,aa+Wv stop*1),(b4,0),(ji,0)] (E2 d r_ m f p g q ad a af ae ag ab ac l) [⟨c9,aZ.tm.length,dj,3,1,e3,0⟩,⟨da,aZ.lE.length,dk,3,1,e4,0⟩,⟨db,aZ.lA.length,dl,29,1,e5,0⟩] aa8)=>hK _ _ (Ay.unset 6 rfl (by kernel_rfl) (Ay.forget [5] pg.plOk)) (Cf (e':=[(s,0),(u,0),(x,0),(y,0),(z,aa+Wv stop*1),(b4,0),(ji,0)]) (pl':=(Fh d r_ m f p g q ad a af ae ag ab ac l)) (fun _ hp=>hp.unset 6 rfl (by kernel_rfl)) ?_)
     refine Ax [2,3,6,7,4,1,0] (by kernel_rfl) (by rfl) (ll b4 ji c9 dj e3 da dk e4 db dl e5 _ _ ?_)
     exact XY _ ⟨_,rfl,w1.kp,pg,c0,ks,kt,ku⟩
   refine Bc (fun W=>∀ (b5:Nat),∀ (dc:Ww),∀ (dm:Nat),∀ (e6:Wx),∀ (dd:Ww),∀ (dp:Nat),∀ (e7:Wx),∀ (de:Ww),∀ (dq:Nat),∀ (e8:Wx),∀ a' w',(∃ (nm:Array Value)(cy:Ae),a' = ⟨nm,[]⟩∧Kn 123 (RU s u x y z aa stop b5) ((tP 13 6 0)::(tA 46 (UB d r_ m f p g q))::(tA 45 (Wr aZ dc dm dd dp de dq))::(tA 47 [.func (.func 56) #[] #[]])::(B0 bK l)) nm∧Ah ⟨w,h,A6⟩ cy (RU s u x y z aa stop b5) (D7 d r_ m f p g q ad a af ae ag ab ac l) [⟨dc,aZ.tm.length,dm,3,1,e6,0⟩,⟨dd,aZ.lE.length,dp,3,1,e7,0⟩,⟨de,aZ.lA.length,dq,29,1,e8,0⟩] w'∧Ae.le ax cy∧Ag cy aZ.tm e6∧Ag cy aZ.lE e7∧Ag cy aZ.lA e8)→W (RU s u x y z aa stop b5) (D7 d r_ m f p g q ad a af ae ag ab ac l) [2,3,7,4,1,0] a' w') ?_ (fun m8=>?_)
   ·
    intro b5 dc dm e6 dd dp e7 de dq e8
    rintro _ aey ⟨nm,cy,rfl,oo,my,c1,kv,kw,kx⟩
    replace ai:=ai.mono c1
    replace aj:=aj.mono c1
    replace ak:=ak.mono c1
    replace a5:=a5.mono c1
    replace a6:=a6.mono c1
    replace a4:=a4.mono c1
    replace ba:=ba.mono c1
    replace ah:=c1 _ _ _ ah
    refine D0 5 6 rfl rfl (by kernel_rfl) (by decide) (rfl) (rfl) (fun K hK=>?_) (fun K hK=>?_)
    ·
     refine Es [.agg (UB d r_ m f p g q),.agg [.func (.func 56) #[] #[]]] _ oo my rfl rfl (by decide) (by rfl) rfl (fun _ _=>by kernel_rfl) (A9 n my.has r_ ((Ab (Ad ai) (Ab (Ab Ac Ac) (Ab (Ad aj) (Ab (Ad ak) (Ab Ac (Ab Ac (Ab Ac Ac))))))):rep cy r_ _) (HJ.mk (fun(y0:Rg)=>Aw n y0)) (⟨_,_,_,rfl,(show QW cy (.func (.func 56) #[] #[]) (fun(y0:Rg)=>Aw n y0) from fun h2 w2 hle hh y0 cs0 hy0 r H=>⟨56,_,_,rfl,fun _ _=>by kernel_rfl,C7 n hh y0 hy0 H⟩)⟩:rep cy (HJ.mk (fun(y0:Rg)=>Aw n y0)) _) ex48) fun ad5 sd aa9 ach r0 hn lb=>?_
     replace kv:=kv.mono hn
     replace kw:=kw.mono hn
     replace kx:=kx.mono hn
     replace ah:=hn _ _ _ ah
     obtain⟨iu,j7,q5,iv,j8,q6,iw,j9,q7,rfl,rfl,tq,tr,ts⟩:=r0
     replace lb:Ah ⟨w,h,A6⟩ sd (RU s u x y z aa stop b5) (D7 d r_ m f p g q ad a af ae ag ab ac l) [⟨dc,aZ.tm.length,dm,3,1,e6,0⟩,⟨dd,aZ.lE.length,dp,3,1,e7,0⟩,⟨de,aZ.lA.length,dq,29,1,e8,0⟩,⟨iu,bU.tm.length,j7,3,1,q5,0⟩,⟨iv,bU.lE.length,j8,3,1,q6,0⟩,⟨iw,bU.lA.length,j9,29,1,q7,0⟩] aa9:=lb
     refine⟨.one (.agg (Wr bU iu j7 iv j8 iw j9)),rfl,fun z4 (w4:Kn 123 (RU s u x y z aa stop b5) ((tA 48 (Wr bU iu j7 iv j8 iw j9))::(tP 13 6 0)::(tA 46 (UB d r_ m f p g q))::(tA 45 (Wr aZ dc dm dd dp de dq))::(tA 47 [.func (.func 56) #[] #[]])::(B0 bK l)) z4)=>hK _ _ lb.plOk ?_⟩
     refine Ax [5,2,3,7,4,1,0] (by kernel_rfl) (by rfl) (qe b5 dc dm e6 dd dp e7 de dq e8 iu j7 q5 iv j8 q6 iw j9 q7 _ _ ?_)
     exact XY _ ⟨_,rfl,w4.kp,lb,XU c1 hn,kv,kw,kx,tq,tr,ts⟩
    ·
     refine JF 5 UE oo my fun jj z5 aba (w5:Kn 123 [(s,0),(u,0),(x,0),(y,0),(z,aa+Wv stop*1),(jj,0),(b5,0)] ((tP 12 5 0)::(tP 13 6 0)::(tA 46 (UB d r_ m f p g q))::(tA 45 (Wr aZ dc dm dd dp de dq))::(tA 47 [.func (.func 56) #[] #[]])::(B0 bK l)) z5) (ph:Ah ⟨w,h,A6⟩ cy [(s,0),(u,0),(x,0),(y,0),(z,aa+Wv stop*1),(jj,0),(b5,0)] (E2 d r_ m f p g q ad a af ae ag ab ac l) [⟨dc,aZ.tm.length,dm,3,1,e6,0⟩,⟨dd,aZ.lE.length,dp,3,1,e7,0⟩,⟨de,aZ.lA.length,dq,29,1,e8,0⟩] aba)=>hK _ _ (Ay.unset 5 rfl (by kernel_rfl) (Ay.forget [5] ph.plOk)) (Cf (e':=[(s,0),(u,0),(x,0),(y,0),(z,aa+Wv stop*1),(jj,0),(b5,0)]) (pl':=(Fh d r_ m f p g q ad a af ae ag ab ac l)) (fun _ hp=>hp.unset 5 rfl (by kernel_rfl)) ?_)
     refine Ax [2,3,6,7,4,1,0] (by kernel_rfl) (by rfl) (ll jj b5 dc dm e6 dd dp e7 de dq e8 _ _ ?_)
     exact XY _ ⟨_,rfl,w5.kp,ph,c1,kv,kw,kx⟩
   refine Bc (fun W=>∀ (fs:Nat),∀ (ft:Nat),∀ (g5:Ww),∀ (g9:Nat),∀ (lr:Wx),∀ (g6:Ww),∀ (ha:Nat),∀ (ls:Wx),∀ (g7:Ww),∀ (hb:Nat),∀ (lu:Wx),∀ a' w',(∃ (nn:Array Value)(gf:Ae),a' = ⟨nn,[]⟩∧Kn 123 [(s,0),(u,0),(x,0),(y,0),(z,aa+Wv stop*1),(fs,0),(ft,0)] ((tP 13 6 0)::(tP 12 5 0)::(tA 45 (Wr aZ g5 g9 g6 ha g7 hb))::(tA 47 [.func (.func 56) #[] #[]])::(B0 bK l)) nn∧Ah ⟨w,h,A6⟩ gf [(s,0),(u,0),(x,0),(y,0),(z,aa+Wv stop*1),(fs,0),(ft,0)] (E2 d r_ m f p g q ad a af ae ag ab ac l) [⟨g5,aZ.tm.length,g9,3,1,lr,0⟩,⟨g6,aZ.lE.length,ha,3,1,ls,0⟩,⟨g7,aZ.lA.length,hb,29,1,lu,0⟩] w'∧Ae.le ax gf∧Ag gf aZ.tm lr∧Ag gf aZ.lE ls∧Ag gf aZ.lA lu)→W [(s,0),(u,0),(x,0),(y,0),(z,aa+Wv stop*1),(fs,0),(ft,0)] (Fh d r_ m f p g q ad a af ae ag ab ac l) [2,6,7,4,1,0] a' w') ?_ (fun m9=>?_)
   ·
    intro fs ft g5 g9 lr g6 ha ls g7 hb lu
    rintro _ aez ⟨nn,gf,rfl,w6,mz,o0,tt,tu,tv⟩
    replace ah:=o0 _ _ _ ah
    refine Dl 3 fun K hK=>?_
    refine Bk w6 (Ay.forget [5] mz.plOk) rfl (by decide) (by kernel_rfl) fun z6 (w7:Kn 123 [(s,0),(u,0),(x,0),(y,0),(z,aa+Wv stop*1),(fs,0),(ft,0)] ((tA 46 (UB d r_ m f p g q))::(tP 13 6 0)::(tP 12 5 0)::(tA 45 (Wr aZ g5 g9 g6 ha g7 hb))::(tA 47 [.func (.func 56) #[] #[]])::(B0 bK l)) z6)=>hK _ _ (Ay.forget [5] mz.plOk) ?_
    refine Ax [2,3,6,7,4,1,0] (by kernel_rfl) (by rfl) (ll fs ft g5 g9 lr g6 ha ls g7 hb lu _ _ ?_)
    exact XY _ ⟨_,rfl,w7.kp,mz,o0,tt,tu,tv⟩
   refine Bc (fun W=>∀ (er:Nat),∀ (es:Nat),∀ a' w',(∃ (np:Array Value)(gg:Ae),a' = ⟨np,[]⟩∧Kn 123 [(s,0),(u,0),(x,0),(y,0),(z,aa+Wv stop*1),(er,0),(es,0)] ((tP 13 6 0)::(tP 12 5 0)::(tA 46 (UB d r_ m f p g q))::(Cr d r_ m f p g q bK l)) np∧Ah ⟨w,h,A6⟩ gg [(s,0),(u,0),(x,0),(y,0),(z,aa+Wv stop*1),(er,0),(es,0)] (E2 d r_ m f p g q ad a af ae ag ab ac l) [] w'∧Ae.le ax gg)→W [(s,0),(u,0),(x,0),(y,0),(z,aa+Wv stop*1),(er,0),(es,0)] (Fh d r_ m f p g q ad a af ae ag ab ac l) [3,6,7,4,1,0] a' w') ?_ (fun na=>?_)
   ·
    intro er es
    rintro _ ae0 ⟨np,gg,rfl,w8,pi,ho⟩
    replace ai:=ai.mono ho
    replace aj:=aj.mono ho
    replace ak:=ak.mono ho
    replace ah:=ho _ _ _ ah
    refine Dl 2 fun K hK=>?_
    refine Es (JM d r_ m f p g q) _ w8 pi rfl rfl (by decide) (by rfl) rfl (fun _ _=>by kernel_rfl) (A9 n pi.has r_ ((Ab (Ad ai) (Ab (Ab Ac Ac) (Ab (Ad aj) (Ab (Ad ak) (Ab Ac (Ab Ac (Ab Ac Ac))))))):rep gg r_ _) (HJ.mk (fun(y0:Rg)=>Al n y0)) (⟨_,_,_,rfl,(show QW gg (.func (.func 55) #[] #[]) (fun(y0:Rg)=>Al n y0) from fun h2 w2 hle hh y0 cs0 hy0 r H=>⟨55,_,_,rfl,fun _ _=>by kernel_rfl,Bo n hh y0 hy0 H⟩)⟩:rep gg (HJ.mk (fun(y0:Rg)=>Al n y0)) _) fW) fun ad6 se abb aci r1 o1 lc=>?_
    replace ah:=o1 _ _ _ ah
    obtain⟨ix,ka,q8,iy,kb,q9,iz,kc,ra,rfl,rfl,tw,tx,ty⟩:=r1
    replace lc:Ah ⟨w,h,A6⟩ se [(s,0),(u,0),(x,0),(y,0),(z,aa+Wv stop*1),(er,0),(es,0)] (E2 d r_ m f p g q ad a af ae ag ab ac l) [⟨ix,aZ.tm.length,ka,3,1,q8,0⟩,⟨iy,aZ.lE.length,kb,3,1,q9,0⟩,⟨iz,aZ.lA.length,kc,29,1,ra,0⟩] abb:=lc
    refine⟨.one (.agg (Wr aZ ix ka iy kb iz kc)),rfl,fun z7 (xa:Kn 123 [(s,0),(u,0),(x,0),(y,0),(z,aa+Wv stop*1),(er,0),(es,0)] ((tA 45 (Wr aZ ix ka iy kb iz kc))::(tP 13 6 0)::(tP 12 5 0)::(tA 46 (UB d r_ m f p g q))::(Cr d r_ m f p g q bK l)) z7)=>hK _ _ (Ay.forget [5] lc.plOk) ?_⟩
    refine Ax [2,3,6,7,4,1,0] (by kernel_rfl) (by rfl) (ll er es ix ka q8 iy kb q9 iz kc ra _ _ ?_)
    exact XY _ ⟨_,rfl,xa.kp,lc,XU ho o1,tw,tx,ty⟩
   refine Bc (fun W=>∀ (bf:Ww),∀ (bl:Nat),∀ (cd:Wx),∀ (bg:Ww),∀ (bm:Nat),∀ (ce:Wx),∀ (bh:Ww),∀ (bn:Nat),∀ (cf:Wx),∀ a' w',(∃ (nq:Array Value)(cp:Ae),a' = ⟨nq,[]⟩∧Kn 123 (Ij s u x y z aa stop) ((tA 46 (UB d r_ m f p g q))::(tA 45 (Ie bf aZ bl bg bm bh bn))::(tA 47 [.func (.func 56) #[] #[]])::(B0 bK l)) nq∧Ah ⟨w,h,A6⟩ cp (Ij s u x y z aa stop) (M6 d r_ m f p g q ad a af ae ag ab ac l) [⟨bf,aZ.tm.length,bl,3,1,cd,0⟩,⟨bg,aZ.lE.length,bm,3,1,ce,0⟩,⟨bh,aZ.lA.length,bn,29,1,cf,0⟩] w'∧Ae.le ax cp∧Ag cp aZ.tm cd∧Ag cp aZ.lE ce∧Ag cp aZ.lA cf)→W (Ij s u x y z aa stop) (M6 d r_ m f p g q ad a af ae ag ab ac l) [2,3,4,1,0] a' w') ?_ (fun qf=>?_)
   ·
    intro bf bl cd bg bm ce bh bn cf
    rintro _ ae2 ⟨nq,cp,rfl,mm,ld,cb,gj,gk,gl⟩
    replace ai:=ai.mono cb
    replace aj:=aj.mono cb
    replace ak:=ak.mono cb
    replace a5:=a5.mono cb
    replace a6:=a6.mono cb
    replace a4:=a4.mono cb
    replace ba:=ba.mono cb
    replace ah:=cb _ _ _ ah
    refine H4 5 6 7 rfl rfl rfl (by kernel_rfl) (by decide) (rfl) (rfl) (rfl) (fun K hK=>?_) (fun K hK=>?_) (fun K hK=>?_)
    ·
     refine Es [.agg (UB d r_ m f p g q),.agg [.func (.func 56) #[] #[]]] _ mm ld rfl rfl (by decide) (by rfl) rfl (fun _ _=>by kernel_rfl) (A9 n ld.has r_ ((Ab (Ad ai) (Ab (Ab Ac Ac) (Ab (Ad aj) (Ab (Ad ak) (Ab Ac (Ab Ac (Ab Ac Ac))))))):rep cp r_ _) (HJ.mk (fun(y0:Rg)=>Aw n y0)) (⟨_,_,_,rfl,(show QW cp (.func (.func 56) #[] #[]) (fun(y0:Rg)=>Aw n y0) from fun h2 w2 hle hh y0 cs0 hy0 r H=>⟨56,_,_,rfl,fun _ _=>by kernel_rfl,C7 n hh y0 hy0 H⟩)⟩:rep cp (HJ.mk (fun(y0:Rg)=>Aw n y0)) _) ex48) fun ad7 lw abc acj r2 go hs=>?_
     replace gj:=gj.mono go
     replace gk:=gk.mono go
     replace gl:=gl.mono go
     replace ah:=go _ _ _ ah
     obtain⟨df,dr,ia,dg,ds,ib,dh,dt,ic,rfl,rfl,n9,oa,ob⟩:=r2
     replace hs:Ah ⟨w,h,A6⟩ lw (Ij s u x y z aa stop) (M6 d r_ m f p g q ad a af ae ag ab ac l) [⟨bf,aZ.tm.length,bl,3,1,cd,0⟩,⟨bg,aZ.lE.length,bm,3,1,ce,0⟩,⟨bh,aZ.lA.length,bn,29,1,cf,0⟩,⟨df,bU.tm.length,dr,3,1,ia,0⟩,⟨dg,bU.lE.length,ds,3,1,ib,0⟩,⟨dh,bU.lA.length,dt,29,1,ic,0⟩] abc:=hs
     refine⟨.one (.agg (Wr bU df dr dg ds dh dt)),rfl,fun z8 (op:Kn 123 (Ij s u x y z aa stop) ((tA 48 (Wr bU df dr dg ds dh dt))::(tA 46 (UB d r_ m f p g q))::(tA 45 (Ie bf aZ bl bg bm bh bn))::(tA 47 [.func (.func 56) #[] #[]])::(B0 bK l)) z8)=>hK _ _ hs.plOk ?_⟩
     refine D0 6 7 rfl rfl (by kernel_rfl) (by decide) (rfl) (rfl) (fun K hK=>?_) (fun K hK=>?_)
     ·
      refine JF 5 UE op hs fun jk z9 abd (xd:Kn 123 [(s,0),(u,0),(x,0),(y,0),(z,aa+Wv stop*1),(jk,0),(0,0)] ((tP 12 5 0)::(tA 48 (Wr bU df dr dg ds dh dt))::(tA 46 (UB d r_ m f p g q))::(tA 45 (Ie bf aZ bl bg bm bh bn))::(tA 47 [.func (.func 56) #[] #[]])::(B0 bK l)) z9) (pk:Ah ⟨w,h,A6⟩ lw [(s,0),(u,0),(x,0),(y,0),(z,aa+Wv stop*1),(jk,0),(0,0)] (GE d r_ m f p g q ad a af ae ag ab ac l) [⟨bf,aZ.tm.length,bl,3,1,cd,0⟩,⟨bg,aZ.lE.length,bm,3,1,ce,0⟩,⟨bh,aZ.lA.length,bn,29,1,cf,0⟩,⟨df,bU.tm.length,dr,3,1,ia,0⟩,⟨dg,bU.lE.length,ds,3,1,ib,0⟩,⟨dh,bU.lA.length,dt,29,1,ic,0⟩] abd)=>hK _ _ (Ay.unset 5 rfl (by kernel_rfl) (Ay.forget [5] pk.plOk)) (Cf (e':=[(s,0),(u,0),(x,0),(y,0),(z,aa+Wv stop*1),(jk,0),(0,0)]) (pl':=(ID d r_ m f p g q ad a af ae ag ab ac l)) (fun _ hp=>hp.unset 5 rfl (by kernel_rfl)) ?_)
      refine Ax [5,2,3,6,4,1,0] (by kernel_rfl) (by rfl) (qd jk bf bl cd bg bm ce bh bn cf df dr ia dg ds ib dh dt ic _ _ ?_)
      exact XY _ ⟨_,rfl,xd.kp,pk,XU cb go,gj,gk,gl,n9,oa,ob⟩
     ·
      refine JF 6 UE op hs fun jl aaa abe (xe:Kn 123 [(s,0),(u,0),(x,0),(y,0),(z,aa+Wv stop*1),(0,0),(jl,0)] ((tP 13 6 0)::(tA 48 (Wr bU df dr dg ds dh dt))::(tA 46 (UB d r_ m f p g q))::(tA 45 (Ie bf aZ bl bg bm bh bn))::(tA 47 [.func (.func 56) #[] #[]])::(B0 bK l)) aaa) (pl:Ah ⟨w,h,A6⟩ lw [(s,0),(u,0),(x,0),(y,0),(z,aa+Wv stop*1),(0,0),(jl,0)] (D7 d r_ m f p g q ad a af ae ag ab ac l) [⟨bf,aZ.tm.length,bl,3,1,cd,0⟩,⟨bg,aZ.lE.length,bm,3,1,ce,0⟩,⟨bh,aZ.lA.length,bn,29,1,cf,0⟩,⟨df,bU.tm.length,dr,3,1,ia,0⟩,⟨dg,bU.lE.length,ds,3,1,ib,0⟩,⟨dh,bU.lA.length,dt,29,1,ic,0⟩] abe)=>hK _ _ (Ay.unset 6 rfl (by kernel_rfl) pl.plOk) (Cf (e':=[(s,0),(u,0),(x,0),(y,0),(z,aa+Wv stop*1),(0,0),(jl,0)]) (pl':=(D7 d r_ m f p g q ad a af ae ag ab ac l)) (fun _ hp=>hp.unset 6 rfl (by kernel_rfl)) ?_)
      refine Ax [5,2,3,7,4,1,0] (by kernel_rfl) (by rfl) (qe jl bf bl cd bg bm ce bh bn cf df dr ia dg ds ib dh dt ic _ _ ?_)
      exact XY _ ⟨_,rfl,xe.kp,pl,XU cb go,gj,gk,gl,n9,oa,ob⟩
    ·
     refine JF 5 UE mm ld fun jm aab abf (xf:Kn 123 [(s,0),(u,0),(x,0),(y,0),(z,aa+Wv stop*1),(jm,0),(0,0)] ((tP 12 5 0)::(tA 46 (UB d r_ m f p g q))::(tA 45 (Ie bf aZ bl bg bm bh bn))::(tA 47 [.func (.func 56) #[] #[]])::(B0 bK l)) aab) (pm:Ah ⟨w,h,A6⟩ cp [(s,0),(u,0),(x,0),(y,0),(z,aa+Wv stop*1),(jm,0),(0,0)] (GE d r_ m f p g q ad a af ae ag ab ac l) [⟨bf,aZ.tm.length,bl,3,1,cd,0⟩,⟨bg,aZ.lE.length,bm,3,1,ce,0⟩,⟨bh,aZ.lA.length,bn,29,1,cf,0⟩] abf)=>hK _ _ (Ay.unset 5 rfl (by kernel_rfl) (Ay.forget [5] pm.plOk)) (Cf (e':=[(s,0),(u,0),(x,0),(y,0),(z,aa+Wv stop*1),(jm,0),(0,0)]) (pl':=(ID d r_ m f p g q ad a af ae ag ab ac l)) (fun _ hp=>hp.unset 5 rfl (by kernel_rfl)) ?_)
     refine Ax [2,3,6,4,1,0] (by kernel_rfl) (by rfl) (m7 jm bf bl cd bg bm ce bh bn cf _ _ ?_)
     exact XY _ ⟨_,rfl,xf.kp,pm,cb,gj,gk,gl⟩
    ·
     refine JF 6 UE mm ld fun jn aac abg (xg:Kn 123 [(s,0),(u,0),(x,0),(y,0),(z,aa+Wv stop*1),(0,0),(jn,0)] ((tP 13 6 0)::(tA 46 (UB d r_ m f p g q))::(tA 45 (Ie bf aZ bl bg bm bh bn))::(tA 47 [.func (.func 56) #[] #[]])::(B0 bK l)) aac) (pn:Ah ⟨w,h,A6⟩ cp [(s,0),(u,0),(x,0),(y,0),(z,aa+Wv stop*1),(0,0),(jn,0)] (D7 d r_ m f p g q ad a af ae ag ab ac l) [⟨bf,aZ.tm.length,bl,3,1,cd,0⟩,⟨bg,aZ.lE.length,bm,3,1,ce,0⟩,⟨bh,aZ.lA.length,bn,29,1,cf,0⟩] abg)=>hK _ _ (Ay.unset 6 rfl (by kernel_rfl) pn.plOk) (Cf (e':=[(s,0),(u,0),(x,0),(y,0),(z,aa+Wv stop*1),(0,0),(jn,0)]) (pl':=(D7 d r_ m f p g q ad a af ae ag ab ac l)) (fun _ hp=>hp.unset 6 rfl (by kernel_rfl)) ?_)
     refine Ax [2,3,7,4,1,0] (by kernel_rfl) (by rfl) (m8 jn bf bl cd bg bm ce bh bn cf _ _ ?_)
     exact XY _ ⟨_,rfl,xg.kp,pn,cb,gj,gk,gl⟩
   refine Bc (fun W=>∀ (ct:Nat),∀ (d0:Ww),∀ (d9:Nat),∀ (gw:Wx),∀ (d1:Ww),∀ (ea:Nat),∀ (gx:Wx),∀ (d2:Ww),∀ (eb:Nat),∀ (gy:Wx),∀ a' w',(∃ (nr:Array Value)(eu:Ae),a' = ⟨nr,[]⟩∧Kn 123 [(s,0),(u,0),(x,0),(y,0),(z,aa+Wv stop*1),(ct,0),(0,0)] ((tP 12 5 0)::(tA 45 (Wr aZ d0 d9 d1 ea d2 eb))::(tA 47 [.func (.func 56) #[] #[]])::(B0 bK l)) nr∧Ah ⟨w,h,A6⟩ eu [(s,0),(u,0),(x,0),(y,0),(z,aa+Wv stop*1),(ct,0),(0,0)] (GE d r_ m f p g q ad a af ae ag ab ac l) [⟨d0,aZ.tm.length,d9,3,1,gw,0⟩,⟨d1,aZ.lE.length,ea,3,1,gx,0⟩,⟨d2,aZ.lA.length,eb,29,1,gy,0⟩] w'∧Ae.le ax eu∧Ag eu aZ.tm gw∧Ag eu aZ.lE gx∧Ag eu aZ.lA gy)→W [(s,0),(u,0),(x,0),(y,0),(z,aa+Wv stop*1),(ct,0),(0,0)] (ID d r_ m f p g q ad a af ae ag ab ac l) [2,6,4,1,0] a' w') ?_ (fun qg=>?_)
   ·
    intro ct d0 d9 gw d1 ea gx d2 eb gy
    rintro _ ae3 ⟨nr,eu,rfl,oq,lf,ms,oc,od,oe⟩
    replace ah:=ms _ _ _ ah
    refine D0 3 7 rfl rfl (by kernel_rfl) (by decide) (rfl) (rfl) (fun K hK=>?_) (fun K hK=>?_)
    ·
     refine Bk oq (Ay.forget [5] lf.plOk) rfl (by decide) (by kernel_rfl) fun aad (xi:Kn 123 [(s,0),(u,0),(x,0),(y,0),(z,aa+Wv stop*1),(ct,0),(0,0)] ((tA 46 (UB d r_ m f p g q))::(tP 12 5 0)::(tA 45 (Wr aZ d0 d9 d1 ea d2 eb))::(tA 47 [.func (.func 56) #[] #[]])::(B0 bK l)) aad)=>hK _ _ (Ay.forget [5] lf.plOk) ?_
     refine Ax [2,3,6,4,1,0] (by kernel_rfl) (by rfl) (m7 ct d0 d9 gw d1 ea gx d2 eb gy _ _ ?_)
     exact XY _ ⟨_,rfl,xi.kp,lf,ms,oc,od,oe⟩
    ·
     refine JF 6 UE oq lf fun jo aae abh (xj:Kn 123 [(s,0),(u,0),(x,0),(y,0),(z,aa+Wv stop*1),(ct,0),(jo,0)] ((tP 13 6 0)::(tP 12 5 0)::(tA 45 (Wr aZ d0 d9 d1 ea d2 eb))::(tA 47 [.func (.func 56) #[] #[]])::(B0 bK l)) aae) (po:Ah ⟨w,h,A6⟩ eu [(s,0),(u,0),(x,0),(y,0),(z,aa+Wv stop*1),(ct,0),(jo,0)] (E2 d r_ m f p g q ad a af ae ag ab ac l) [⟨d0,aZ.tm.length,d9,3,1,gw,0⟩,⟨d1,aZ.lE.length,ea,3,1,gx,0⟩,⟨d2,aZ.lA.length,eb,29,1,gy,0⟩] abh)=>hK _ _ (Ay.unset 6 rfl (by kernel_rfl) (Ay.forget [5] po.plOk)) (Cf (e':=[(s,0),(u,0),(x,0),(y,0),(z,aa+Wv stop*1),(ct,0),(jo,0)]) (pl':=(Fh d r_ m f p g q ad a af ae ag ab ac l)) (fun _ hp=>hp.unset 6 rfl (by kernel_rfl)) ?_)
     refine Ax [2,6,7,4,1,0] (by kernel_rfl) (by rfl) (m9 ct jo d0 d9 gw d1 ea gx d2 eb gy _ _ ?_)
     exact XY _ ⟨_,rfl,xj.kp,po,ms,oc,od,oe⟩
   refine Bc (fun W=>∀ (cu:Nat),∀ (d3:Ww),∀ (ec:Nat),∀ (gz:Wx),∀ (d4:Ww),∀ (ed:Nat),∀ (g0:Wx),∀ (d5:Ww),∀ (ee:Nat),∀ (g1:Wx),∀ a' w',(∃ (ns:Array Value)(ev:Ae),a' = ⟨ns,[]⟩∧Kn 123 [(s,0),(u,0),(x,0),(y,0),(z,aa+Wv stop*1),(0,0),(cu,0)] ((tP 13 6 0)::(tA 45 (Wr aZ d3 ec d4 ed d5 ee))::(tA 47 [.func (.func 56) #[] #[]])::(B0 bK l)) ns∧Ah ⟨w,h,A6⟩ ev [(s,0),(u,0),(x,0),(y,0),(z,aa+Wv stop*1),(0,0),(cu,0)] (D7 d r_ m f p g q ad a af ae ag ab ac l) [⟨d3,aZ.tm.length,ec,3,1,gz,0⟩,⟨d4,aZ.lE.length,ed,3,1,g0,0⟩,⟨d5,aZ.lA.length,ee,29,1,g1,0⟩] w'∧Ae.le ax ev∧Ag ev aZ.tm gz∧Ag ev aZ.lE g0∧Ag ev aZ.lA g1)→W [(s,0),(u,0),(x,0),(y,0),(z,aa+Wv stop*1),(0,0),(cu,0)] (D7 d r_ m f p g q ad a af ae ag ab ac l) [2,7,4,1,0] a' w') ?_ (fun qh=>?_)
   ·
    intro cu d3 ec gz d4 ed g0 d5 ee g1
    rintro _ ae5 ⟨ns,ev,rfl,os,lg,mt,og,oh,oi⟩
    replace ah:=mt _ _ _ ah
    refine D0 3 6 rfl rfl (by kernel_rfl) (by decide) (rfl) (rfl) (fun K hK=>?_) (fun K hK=>?_)
    ·
     refine Bk os lg.plOk rfl (by decide) (by kernel_rfl) fun aaf (xl:Kn 123 [(s,0),(u,0),(x,0),(y,0),(z,aa+Wv stop*1),(0,0),(cu,0)] ((tA 46 (UB d r_ m f p g q))::(tP 13 6 0)::(tA 45 (Wr aZ d3 ec d4 ed d5 ee))::(tA 47 [.func (.func 56) #[] #[]])::(B0 bK l)) aaf)=>hK _ _ lg.plOk ?_
     refine Ax [2,3,7,4,1,0] (by kernel_rfl) (by rfl) (m8 cu d3 ec gz d4 ed g0 d5 ee g1 _ _ ?_)
     exact XY _ ⟨_,rfl,xl.kp,lg,mt,og,oh,oi⟩
    ·
     refine JF 5 UE os lg fun jp aag abi (xm:Kn 123 [(s,0),(u,0),(x,0),(y,0),(z,aa+Wv stop*1),(jp,0),(cu,0)] ((tP 12 5 0)::(tP 13 6 0)::(tA 45 (Wr aZ d3 ec d4 ed d5 ee))::(tA 47 [.func (.func 56) #[] #[]])::(B0 bK l)) aag) (pp:Ah ⟨w,h,A6⟩ ev [(s,0),(u,0),(x,0),(y,0),(z,aa+Wv stop*1),(jp,0),(cu,0)] (E2 d r_ m f p g q ad a af ae ag ab ac l) [⟨d3,aZ.tm.length,ec,3,1,gz,0⟩,⟨d4,aZ.lE.length,ed,3,1,g0,0⟩,⟨d5,aZ.lA.length,ee,29,1,g1,0⟩] abi)=>hK _ _ (Ay.unset 5 rfl (by kernel_rfl) (Ay.forget [5] pp.plOk)) (Cf (e':=[(s,0),(u,0),(x,0),(y,0),(z,aa+Wv stop*1),(jp,0),(cu,0)]) (pl':=(Fh d r_ m f p g q ad a af ae ag ab ac l)) (fun _ hp=>hp.unset 5 rfl (by kernel_rfl)) ?_)
     refine Ax [2,6,7,4,1,0] (by kernel_rfl) (by rfl) (m9 jp cu d3 ec gz d4 ed g0 d5 ee g1 _ _ ?_)
     exact XY _ ⟨_,rfl,xm.kp,pp,mt,og,oh,oi⟩
   refine Bc (fun W=>∀ (b6:Nat),∀ a' w',(∃ (nt:Array Value)(ew:Ae),a' = ⟨nt,[]⟩∧Kn 123 (RT s u x y z aa stop b6) ((tP 12 5 0)::(tA 46 (UB d r_ m f p g q))::(Cr d r_ m f p g q bK l)) nt∧Ah ⟨w,h,A6⟩ ew (RT s u x y z aa stop b6) (GE d r_ m f p g q ad a af ae ag ab ac l) [] w'∧Ae.le ax ew)→W (RT s u x y z aa stop b6) (ID d r_ m f p g q ad a af ae ag ab ac l) [3,6,4,1,0] a' w') ?_ (fun qi=>?_)
   ·
    intro b6
    rintro _ ae6 ⟨nt,ew,rfl,ot,m0,c2⟩
    replace ai:=ai.mono c2
    replace aj:=aj.mono c2
    replace ak:=ak.mono c2
    replace a5:=a5.mono c2
    replace a6:=a6.mono c2
    replace a4:=a4.mono c2
    replace ba:=ba.mono c2
    replace ah:=c2 _ _ _ ah
    refine D0 2 7 rfl rfl (by kernel_rfl) (by decide) (rfl) (rfl) (fun K hK=>?_) (fun K hK=>?_)
    ·
     refine Es (JM d r_ m f p g q) _ ot m0 rfl rfl (by decide) (by rfl) rfl (fun _ _=>by kernel_rfl) (A9 n m0.has r_ ((Ab (Ad ai) (Ab (Ab Ac Ac) (Ab (Ad aj) (Ab (Ad ak) (Ab Ac (Ab Ac (Ab Ac Ac))))))):rep ew r_ _) (HJ.mk (fun(y0:Rg)=>Al n y0)) (⟨_,_,_,rfl,(show QW ew (.func (.func 55) #[] #[]) (fun(y0:Rg)=>Al n y0) from fun h2 w2 hle hh y0 cs0 hy0 r H=>⟨55,_,_,rfl,fun _ _=>by kernel_rfl,Bo n hh y0 hy0 H⟩)⟩:rep ew (HJ.mk (fun(y0:Rg)=>Al n y0)) _) fW) fun ad8 sf abj ack r3 o2 lh=>?_
     replace ah:=o2 _ _ _ ah
     obtain⟨i0,kd,rb,i1,ke,rc,i2,kf,rd,rfl,rfl,tz,t0,t1⟩:=r3
     replace lh:Ah ⟨w,h,A6⟩ sf (RT s u x y z aa stop b6) (GE d r_ m f p g q ad a af ae ag ab ac l) [⟨i0,aZ.tm.length,kd,3,1,rb,0⟩,⟨i1,aZ.lE.length,ke,3,1,rc,0⟩,⟨i2,aZ.lA.length,kf,29,1,rd,0⟩] abj:=lh
     refine⟨.one (.agg (Wr aZ i0 kd i1 ke i2 kf)),rfl,fun aah (xo:Kn 123 (RT s u x y z aa stop b6) ((tA 45 (Wr aZ i0 kd i1 ke i2 kf))::(tP 12 5 0)::(tA 46 (UB d r_ m f p g q))::(Cr d r_ m f p g q bK l)) aah)=>hK _ _ (Ay.forget [5] lh.plOk) ?_⟩
     refine Ax [2,3,6,4,1,0] (by kernel_rfl) (by rfl) (m7 b6 i0 kd rb i1 ke rc i2 kf rd _ _ ?_)
     exact XY _ ⟨_,rfl,xo.kp,lh,XU c2 o2,tz,t0,t1⟩
    ·
     refine JF 6 UE ot m0 fun jq aai abk (xp:Kn 123 [(s,0),(u,0),(x,0),(y,0),(z,aa+Wv stop*1),(b6,0),(jq,0)] ((tP 13 6 0)::(tP 12 5 0)::(tA 46 (UB d r_ m f p g q))::(Cr d r_ m f p g q bK l)) aai) (pq:Ah ⟨w,h,A6⟩ ew [(s,0),(u,0),(x,0),(y,0),(z,aa+Wv stop*1),(b6,0),(jq,0)] (E2 d r_ m f p g q ad a af ae ag ab ac l) [] abk)=>hK _ _ (Ay.unset 6 rfl (by kernel_rfl) (Ay.forget [5] pq.plOk)) (Cf (e':=[(s,0),(u,0),(x,0),(y,0),(z,aa+Wv stop*1),(b6,0),(jq,0)]) (pl':=(Fh d r_ m f p g q ad a af ae ag ab ac l)) (fun _ hp=>hp.unset 6 rfl (by kernel_rfl)) ?_)
     refine Ax [3,6,7,4,1,0] (by kernel_rfl) (by rfl) (na b6 jq _ _ ?_)
     exact XY _ ⟨_,rfl,xp.kp,pq,c2⟩
   refine Bc (fun W=>∀ (b7:Nat),∀ a' w',(∃ (nu:Array Value)(ex:Ae),a' = ⟨nu,[]⟩∧Kn 123 (RU s u x y z aa stop b7) ((tP 13 6 0)::(tA 46 (UB d r_ m f p g q))::(Cr d r_ m f p g q bK l)) nu∧Ah ⟨w,h,A6⟩ ex (RU s u x y z aa stop b7) (D7 d r_ m f p g q ad a af ae ag ab ac l) [] w'∧Ae.le ax ex)→W (RU s u x y z aa stop b7) (D7 d r_ m f p g q ad a af ae ag ab ac l) [3,7,4,1,0] a' w') ?_ (fun qj=>?_)
   ·
    intro b7
    rintro _ ae8 ⟨nu,ex,rfl,ou,m2,c3⟩
    replace ai:=ai.mono c3
    replace aj:=aj.mono c3
    replace ak:=ak.mono c3
    replace a5:=a5.mono c3
    replace a6:=a6.mono c3
    replace a4:=a4.mono c3
    replace ba:=ba.mono c3
    replace ah:=c3 _ _ _ ah
    refine D0 2 6 rfl rfl (by kernel_rfl) (by decide) (rfl) (rfl) (fun K hK=>?_) (fun K hK=>?_)
    ·
     refine Es (JM d r_ m f p g q) _ ou m2 rfl rfl (by decide) (by rfl) rfl (fun _ _=>by kernel_rfl) (A9 n m2.has r_ ((Ab (Ad ai) (Ab (Ab Ac Ac) (Ab (Ad aj) (Ab (Ad ak) (Ab Ac (Ab Ac (Ab Ac Ac))))))):rep ex r_ _) (HJ.mk (fun(y0:Rg)=>Al n y0)) (⟨_,_,_,rfl,(show QW ex (.func (.func 55) #[] #[]) (fun(y0:Rg)=>Al n y0) from fun h2 w2 hle hh y0 cs0 hy0 r H=>⟨55,_,_,rfl,fun _ _=>by kernel_rfl,Bo n hh y0 hy0 H⟩)⟩:rep ex (HJ.mk (fun(y0:Rg)=>Al n y0)) _) fW) fun ad9 sg abl acl r4 o3 li=>?_
     replace ah:=o3 _ _ _ ah
     obtain⟨i3,kg,re,i4,kh,rf,i5,ki,rg,rfl,rfl,t2,t3,t4⟩:=r4
     replace li:Ah ⟨w,h,A6⟩ sg (RU s u x y z aa stop b7) (D7 d r_ m f p g q ad a af ae ag ab ac l) [⟨i3,aZ.tm.length,kg,3,1,re,0⟩,⟨i4,aZ.lE.length,kh,3,1,rf,0⟩,⟨i5,aZ.lA.length,ki,29,1,rg,0⟩] abl:=li
     refine⟨.one (.agg (Wr aZ i3 kg i4 kh i5 ki)),rfl,fun aaj (xs:Kn 123 (RU s u x y z aa stop b7) ((tA 45 (Wr aZ i3 kg i4 kh i5 ki))::(tP 13 6 0)::(tA 46 (UB d r_ m f p g q))::(Cr d r_ m f p g q bK l)) aaj)=>hK _ _ li.plOk ?_⟩
     refine Ax [2,3,7,4,1,0] (by kernel_rfl) (by rfl) (m8 b7 i3 kg re i4 kh rf i5 ki rg _ _ ?_)
     exact XY _ ⟨_,rfl,xs.kp,li,XU c3 o3,t2,t3,t4⟩
    ·
     refine JF 5 UE ou m2 fun jr aak abm (xt:Kn 123 [(s,0),(u,0),(x,0),(y,0),(z,aa+Wv stop*1),(jr,0),(b7,0)] ((tP 12 5 0)::(tP 13 6 0)::(tA 46 (UB d r_ m f p g q))::(Cr d r_ m f p g q bK l)) aak) (pr:Ah ⟨w,h,A6⟩ ex [(s,0),(u,0),(x,0),(y,0),(z,aa+Wv stop*1),(jr,0),(b7,0)] (E2 d r_ m f p g q ad a af ae ag ab ac l) [] abm)=>hK _ _ (Ay.unset 5 rfl (by kernel_rfl) (Ay.forget [5] pr.plOk)) (Cf (e':=[(s,0),(u,0),(x,0),(y,0),(z,aa+Wv stop*1),(jr,0),(b7,0)]) (pl':=(Fh d r_ m f p g q ad a af ae ag ab ac l)) (fun _ hp=>hp.unset 5 rfl (by kernel_rfl)) ?_)
     refine Ax [3,6,7,4,1,0] (by kernel_rfl) (by rfl) (na jr b7 _ _ ?_)
     exact XY _ ⟨_,rfl,xt.kp,pr,c3⟩
   refine Bc (fun W=>∀ (cj:Nat),∀ (ck:Nat),∀ a' w',(∃ (nv:Array Value)(gh:Ae),a' = ⟨nv,[]⟩∧Kn 123 (E0 s u x y z aa stop cj ck) ((tP 13 6 0)::(tP 12 5 0)::(Cr d r_ m f p g q bK l)) nv∧Ah ⟨w,h,A6⟩ gh (E0 s u x y z aa stop cj ck) (E2 d r_ m f p g q ad a af ae ag ab ac l) [] w'∧Ae.le ax gh)→W (E0 s u x y z aa stop cj ck) (Fh d r_ m f p g q ad a af ae ag ab ac l) [6,7,4,1,0] a' w') ?_ (fun qk=>?_)
   ·
    intro cj ck
    rintro _ ae9 ⟨nv,gh,rfl,ov,ht,c4⟩
    replace ai:=ai.mono c4
    replace aj:=aj.mono c4
    replace ak:=ak.mono c4
    replace a5:=a5.mono c4
    replace a6:=a6.mono c4
    replace a4:=a4.mono c4
    replace ba:=ba.mono c4
    replace ah:=c4 _ _ _ ah
    refine D0 2 3 rfl rfl (by kernel_rfl) (by decide) (rfl) (rfl) (fun K hK=>?_) (fun K hK=>?_)
    ·
     refine Es (JM d r_ m f p g q) _ ov ht rfl rfl (by decide) (by rfl) rfl (fun _ _=>by kernel_rfl) (A9 n ht.has r_ ((Ab (Ad ai) (Ab (Ab Ac Ac) (Ab (Ad aj) (Ab (Ad ak) (Ab Ac (Ab Ac (Ab Ac Ac))))))):rep gh r_ _) (HJ.mk (fun(y0:Rg)=>Al n y0)) (⟨_,_,_,rfl,(show QW gh (.func (.func 55) #[] #[]) (fun(y0:Rg)=>Al n y0) from fun h2 w2 hle hh y0 cs0 hy0 r H=>⟨55,_,_,rfl,fun _ _=>by kernel_rfl,Bo n hh y0 hy0 H⟩)⟩:rep gh (HJ.mk (fun(y0:Rg)=>Al n y0)) _) fW) fun aeb si abn acm r5 o4 lj=>?_
     replace ah:=o4 _ _ _ ah
     obtain⟨i6,kj,rh,i7,kk,ri,i8,kl,rj,rfl,rfl,t5,t6,t7⟩:=r5
     replace lj:Ah ⟨w,h,A6⟩ si (E0 s u x y z aa stop cj ck) (E2 d r_ m f p g q ad a af ae ag ab ac l) [⟨i6,aZ.tm.length,kj,3,1,rh,0⟩,⟨i7,aZ.lE.length,kk,3,1,ri,0⟩,⟨i8,aZ.lA.length,kl,29,1,rj,0⟩] abn:=lj
     refine⟨.one (.agg (Wr aZ i6 kj i7 kk i8 kl)),rfl,fun aal (xu:Kn 123 (E0 s u x y z aa stop cj ck) ((tA 45 (Wr aZ i6 kj i7 kk i8 kl))::(tP 13 6 0)::(tP 12 5 0)::(Cr d r_ m f p g q bK l)) aal)=>hK _ _ (Ay.forget [5] lj.plOk) ?_⟩
     refine Ax [2,6,7,4,1,0] (by kernel_rfl) (by rfl) (m9 cj ck i6 kj rh i7 kk ri i8 kl rj _ _ ?_)
     exact XY _ ⟨_,rfl,xu.kp,lj,XU c4 o4,t5,t6,t7⟩
    ·
     refine Bk ov (Ay.forget [5] ht.plOk) rfl (by decide) (by kernel_rfl) fun aam (xv:Kn 123 (E0 s u x y z aa stop cj ck) ((tA 46 (UB d r_ m f p g q))::(tP 13 6 0)::(tP 12 5 0)::(Cr d r_ m f p g q bK l)) aam)=>hK _ _ (Ay.forget [5] ht.plOk) ?_
     refine Ax [3,6,7,4,1,0] (by kernel_rfl) (by rfl) (na cj ck _ _ ?_)
     exact XY _ ⟨_,rfl,xv.kp,ht,c4⟩
   refine VL 2 3 6 7 rfl rfl rfl rfl (by kernel_rfl) (by decide) (rfl) (rfl) (rfl) (rfl) (fun K hK=>?_) (fun K hK=>?_) (fun K hK=>?_) (fun K hK=>?_)
   ·
    refine Es (JM d r_ m f p g q) _ ky c5 rfl rfl (by decide) (by rfl) rfl (fun _ _=>by kernel_rfl) (A9 n c5.has r_ ((Ab (Ad ai) (Ab (Ab Ac Ac) (Ab (Ad aj) (Ab (Ad ak) (Ab Ac (Ab Ac (Ab Ac Ac))))))):rep ax r_ _) (HJ.mk (fun(y0:Rg)=>Al n y0)) (⟨_,_,_,rfl,(show QW ax (.func (.func 55) #[] #[]) (fun(y0:Rg)=>Al n y0) from fun h2 w2 hle hh y0 cs0 hy0 r H=>⟨55,_,_,rfl,fun _ _=>by kernel_rfl,Bo n hh y0 hy0 H⟩)⟩:rep ax (HJ.mk (fun(y0:Rg)=>Al n y0)) _) fW) fun aec lx abo acn r7 k2 em=>?_
    replace ah:=k2 _ _ _ ah
    obtain⟨cg,cl,g2,ch,cm,g3,ci,cn,g4,rfl,rfl,ma,mb,mc⟩:=r7
    replace em:Ah ⟨w,h,A6⟩ lx (Ij s u x y z aa stop) (M6 d r_ m f p g q ad a af ae ag ab ac l) [⟨cg,aZ.tm.length,cl,3,1,g2,0⟩,⟨ch,aZ.lE.length,cm,3,1,g3,0⟩,⟨ci,aZ.lA.length,cn,29,1,g4,0⟩] abo:=em
    refine⟨.one (.agg (Wr aZ cg cl ch cm ci cn)),rfl,fun aan (mn:Kn 123 (Ij s u x y z aa stop) ((tA 45 (Wr aZ cg cl ch cm ci cn))::(Cr d r_ m f p g q bK l)) aan)=>hK _ _ em.plOk ?_⟩
    refine H4 3 6 7 rfl rfl rfl (by kernel_rfl) (by decide) (rfl) (rfl) (rfl) (fun K hK=>?_) (fun K hK=>?_) (fun K hK=>?_)
    ·
     refine Bk mn em.plOk rfl (by decide) (by kernel_rfl) fun aao (xw:Kn 123 (Ij s u x y z aa stop) ((tA 46 (UB d r_ m f p g q))::(tA 45 (Wr aZ cg cl ch cm ci cn))::(Cr d r_ m f p g q bK l)) aao)=>hK _ _ em.plOk ?_
     refine Ax [2,3,4,1,0] (by kernel_rfl) (by rfl) (qf cg cl g2 ch cm g3 ci cn g4 _ _ ?_)
     exact XY _ ⟨_,rfl,xw.kp,em,k2,ma,mb,mc⟩
    ·
     refine JF 5 UE mn em fun js aap abp (xx:Kn 123 [(s,0),(u,0),(x,0),(y,0),(z,aa+Wv stop*1),(js,0),(0,0)] ((tP 12 5 0)::(tA 45 (Wr aZ cg cl ch cm ci cn))::(Cr d r_ m f p g q bK l)) aap) (pt:Ah ⟨w,h,A6⟩ lx [(s,0),(u,0),(x,0),(y,0),(z,aa+Wv stop*1),(js,0),(0,0)] (GE d r_ m f p g q ad a af ae ag ab ac l) [⟨cg,aZ.tm.length,cl,3,1,g2,0⟩,⟨ch,aZ.lE.length,cm,3,1,g3,0⟩,⟨ci,aZ.lA.length,cn,29,1,g4,0⟩] abp)=>hK _ _ (Ay.unset 5 rfl (by kernel_rfl) (Ay.forget [5] pt.plOk)) (Cf (e':=[(s,0),(u,0),(x,0),(y,0),(z,aa+Wv stop*1),(js,0),(0,0)]) (pl':=(ID d r_ m f p g q ad a af ae ag ab ac l)) (fun _ hp=>hp.unset 5 rfl (by kernel_rfl)) ?_)
     refine Ax [2,6,4,1,0] (by kernel_rfl) (by rfl) (qg js cg cl g2 ch cm g3 ci cn g4 _ _ ?_)
     exact XY _ ⟨_,rfl,xx.kp,pt,k2,ma,mb,mc⟩
    ·
     refine JF 6 UE mn em fun jt aaq abq (xy:Kn 123 [(s,0),(u,0),(x,0),(y,0),(z,aa+Wv stop*1),(0,0),(jt,0)] ((tP 13 6 0)::(tA 45 (Wr aZ cg cl ch cm ci cn))::(Cr d r_ m f p g q bK l)) aaq) (pu:Ah ⟨w,h,A6⟩ lx [(s,0),(u,0),(x,0),(y,0),(z,aa+Wv stop*1),(0,0),(jt,0)] (D7 d r_ m f p g q ad a af ae ag ab ac l) [⟨cg,aZ.tm.length,cl,3,1,g2,0⟩,⟨ch,aZ.lE.length,cm,3,1,g3,0⟩,⟨ci,aZ.lA.length,cn,29,1,g4,0⟩] abq)=>hK _ _ (Ay.unset 6 rfl (by kernel_rfl) pu.plOk) (Cf (e':=[(s,0),(u,0),(x,0),(y,0),(z,aa+Wv stop*1),(0,0),(jt,0)]) (pl':=(D7 d r_ m f p g q ad a af ae ag ab ac l)) (fun _ hp=>hp.unset 6 rfl (by kernel_rfl)) ?_)
     refine Ax [2,7,4,1,0] (by kernel_rfl) (by rfl) (qh jt cg cl g2 ch cm g3 ci cn g4 _ _ ?_)
     exact XY _ ⟨_,rfl,xy.kp,pu,k2,ma,mb,mc⟩
   ·
    refine Bk ky c5.plOk rfl (by decide) (by kernel_rfl) fun aar (mo:Kn 123 (Ij s u x y z aa stop) ((tA 46 (UB d r_ m f p g q))::(Cr d r_ m f p g q bK l)) aar)=>hK _ _ c5.plOk ?_
    refine H4 2 6 7 rfl rfl rfl (by kernel_rfl) (by decide) (rfl) (rfl) (rfl) (fun K hK=>?_) (fun K hK=>?_) (fun K hK=>?_)
    ·
     refine Es (JM d r_ m f p g q) _ mo c5 rfl rfl (by decide) (by rfl) rfl (fun _ _=>by kernel_rfl) (A9 n c5.has r_ ((Ab (Ad ai) (Ab (Ab Ac Ac) (Ab (Ad aj) (Ab (Ad ak) (Ab Ac (Ab Ac (Ab Ac Ac))))))):rep ax r_ _) (HJ.mk (fun(y0:Rg)=>Al n y0)) (⟨_,_,_,rfl,(show QW ax (.func (.func 55) #[] #[]) (fun(y0:Rg)=>Al n y0) from fun h2 w2 hle hh y0 cs0 hy0 r H=>⟨55,_,_,rfl,fun _ _=>by kernel_rfl,Bo n hh y0 hy0 H⟩)⟩:rep ax (HJ.mk (fun(y0:Rg)=>Al n y0)) _) fW) fun aed sj abr aco r8 o5 lk=>?_
     replace ah:=o5 _ _ _ ah
     obtain⟨ja,kn,rk,jb,ko,rl,jc,kq,rm,rfl,rfl,t8,t9,ua⟩:=r8
     replace lk:Ah ⟨w,h,A6⟩ sj (Ij s u x y z aa stop) (M6 d r_ m f p g q ad a af ae ag ab ac l) [⟨ja,aZ.tm.length,kn,3,1,rk,0⟩,⟨jb,aZ.lE.length,ko,3,1,rl,0⟩,⟨jc,aZ.lA.length,kq,29,1,rm,0⟩] abr:=lk
     refine⟨.one (.agg (Wr aZ ja kn jb ko jc kq)),rfl,fun aas (xz:Kn 123 (Ij s u x y z aa stop) ((tA 45 (Wr aZ ja kn jb ko jc kq))::(tA 46 (UB d r_ m f p g q))::(Cr d r_ m f p g q bK l)) aas)=>hK _ _ lk.plOk ?_⟩
     refine Ax [2,3,4,1,0] (by kernel_rfl) (by rfl) (qf ja kn rk jb ko rl jc kq rm _ _ ?_)
     exact XY _ ⟨_,rfl,xz.kp,lk,o5,t8,t9,ua⟩
    ·
     refine JF 5 UE mo c5 fun ju zc aat (ub:Kn 123 [(s,0),(u,0),(x,0),(y,0),(z,aa+Wv stop*1),(ju,0),(0,0)] ((tP 12 5 0)::(tA 46 (UB d r_ m f p g q))::(Cr d r_ m f p g q bK l)) zc) (o6:Ah ⟨w,h,A6⟩ ax [(s,0),(u,0),(x,0),(y,0),(z,aa+Wv stop*1),(ju,0),(0,0)] (GE d r_ m f p g q ad a af ae ag ab ac l) [] aat)=>hK _ _ (Ay.unset 5 rfl (by kernel_rfl) (Ay.forget [5] o6.plOk)) (Cf (e':=[(s,0),(u,0),(x,0),(y,0),(z,aa+Wv stop*1),(ju,0),(0,0)]) (pl':=(ID d r_ m f p g q ad a af ae ag ab ac l)) (fun _ hp=>hp.unset 5 rfl (by kernel_rfl)) ?_)
     refine Ax [3,6,4,1,0] (by kernel_rfl) (by rfl) (qi ju _ _ ?_)
     exact XY _ ⟨_,rfl,ub.kp,o6,Ae.le_refl _⟩
    ·
     refine JF 6 UE mo c5 fun jd zd aau (uc:Kn 123 [(s,0),(u,0),(x,0),(y,0),(z,aa+Wv stop*1),(0,0),(jd,0)] ((tP 13 6 0)::(tA 46 (UB d r_ m f p g q))::(Cr d r_ m f p g q bK l)) zd) (o7:Ah ⟨w,h,A6⟩ ax [(s,0),(u,0),(x,0),(y,0),(z,aa+Wv stop*1),(0,0),(jd,0)] (D7 d r_ m f p g q ad a af ae ag ab ac l) [] aau)=>hK _ _ (Ay.unset 6 rfl (by kernel_rfl) o7.plOk) (Cf (e':=[(s,0),(u,0),(x,0),(y,0),(z,aa+Wv stop*1),(0,0),(jd,0)]) (pl':=(D7 d r_ m f p g q ad a af ae ag ab ac l)) (fun _ hp=>hp.unset 6 rfl (by kernel_rfl)) ?_)
     refine Ax [3,7,4,1,0] (by kernel_rfl) (by rfl) (qj jd _ _ ?_)
     exact XY _ ⟨_,rfl,uc.kp,o7,Ae.le_refl _⟩
   ·
    refine JF 5 UE ky c5 fun bx ze aav (md:Kn 123 (RT s u x y z aa stop bx) ((tP 12 5 0)::(Cr d r_ m f p g q bK l)) ze) (ez:Ah ⟨w,h,A6⟩ ax (RT s u x y z aa stop bx) (GE d r_ m f p g q ad a af ae ag ab ac l) [] aav)=>hK _ _ (Ay.unset 5 rfl (by kernel_rfl) (Ay.forget [5] ez.plOk)) (Cf (e':=(RT s u x y z aa stop bx)) (pl':=(ID d r_ m f p g q ad a af ae ag ab ac l)) (fun _ hp=>hp.unset 5 rfl (by kernel_rfl)) ?_)
    refine H4 2 3 7 rfl rfl rfl (by kernel_rfl) (by decide) (rfl) (rfl) (rfl) (fun K hK=>?_) (fun K hK=>?_) (fun K hK=>?_)
    ·
     refine Es (JM d r_ m f p g q) _ md ez rfl rfl (by decide) (by rfl) rfl (fun _ _=>by kernel_rfl) (A9 n ez.has r_ ((Ab (Ad ai) (Ab (Ab Ac Ac) (Ab (Ad aj) (Ab (Ad ak) (Ab Ac (Ab Ac (Ab Ac Ac))))))):rep ax r_ _) (HJ.mk (fun(y0:Rg)=>Al n y0)) (⟨_,_,_,rfl,(show QW ax (.func (.func 55) #[] #[]) (fun(y0:Rg)=>Al n y0) from fun h2 w2 hle hh y0 cs0 hy0 r H=>⟨55,_,_,rfl,fun _ _=>by kernel_rfl,Bo n hh y0 hy0 H⟩)⟩:rep ax (HJ.mk (fun(y0:Rg)=>Al n y0)) _) fW) fun adx r9 aaw acd rr ow k3=>?_
     replace ah:=ow _ _ _ ah
     obtain⟨ie,jv,qt,ig,jw,qu,ih,jx,qv,rfl,rfl,sm,sn,sp⟩:=rr
     replace k3:Ah ⟨w,h,A6⟩ r9 (RT s u x y z aa stop bx) (GE d r_ m f p g q ad a af ae ag ab ac l) [⟨ie,aZ.tm.length,jv,3,1,qt,0⟩,⟨ig,aZ.lE.length,jw,3,1,qu,0⟩,⟨ih,aZ.lA.length,jx,29,1,qv,0⟩] aaw:=k3
     refine⟨.one (.agg (Wr aZ ie jv ig jw ih jx)),rfl,fun zf (uf:Kn 123 (RT s u x y z aa stop bx) ((tA 45 (Wr aZ ie jv ig jw ih jx))::(tP 12 5 0)::(Cr d r_ m f p g q bK l)) zf)=>hK _ _ (Ay.forget [5] k3.plOk) ?_⟩
     refine Ax [2,6,4,1,0] (by kernel_rfl) (by rfl) (qg bx ie jv qt ig jw qu ih jx qv _ _ ?_)
     exact XY _ ⟨_,rfl,uf.kp,k3,ow,sm,sn,sp⟩
    ·
     refine Bk md (Ay.forget [5] ez.plOk) rfl (by decide) (by kernel_rfl) fun zg (ug:Kn 123 (RT s u x y z aa stop bx) ((tA 46 (UB d r_ m f p g q))::(tP 12 5 0)::(Cr d r_ m f p g q bK l)) zg)=>hK _ _ (Ay.forget [5] ez.plOk) ?_
     refine Ax [3,6,4,1,0] (by kernel_rfl) (by rfl) (qi bx _ _ ?_)
     exact XY _ ⟨_,rfl,ug.kp,ez,Ae.le_refl _⟩
    ·
     refine JF 6 UE md ez fun je zh aax (uh:Kn 123 [(s,0),(u,0),(x,0),(y,0),(z,aa+Wv stop*1),(bx,0),(je,0)] ((tP 13 6 0)::(tP 12 5 0)::(Cr d r_ m f p g q bK l)) zh) (o8:Ah ⟨w,h,A6⟩ ax [(s,0),(u,0),(x,0),(y,0),(z,aa+Wv stop*1),(bx,0),(je,0)] (E2 d r_ m f p g q ad a af ae ag ab ac l) [] aax)=>hK _ _ (Ay.unset 6 rfl (by kernel_rfl) (Ay.forget [5] o8.plOk)) (Cf (e':=[(s,0),(u,0),(x,0),(y,0),(z,aa+Wv stop*1),(bx,0),(je,0)]) (pl':=(Fh d r_ m f p g q ad a af ae ag ab ac l)) (fun _ hp=>hp.unset 6 rfl (by kernel_rfl)) ?_)
     refine Ax [6,7,4,1,0] (by kernel_rfl) (by rfl) (qk bx je _ _ ?_)
     exact XY _ ⟨_,rfl,uh.kp,o8,Ae.le_refl _⟩
   ·
    refine JF 6 UE ky c5 fun bz zi aay (me:Kn 123 (RU s u x y z aa stop bz) ((tP 13 6 0)::(Cr d r_ m f p g q bK l)) zi) (e0:Ah ⟨w,h,A6⟩ ax (RU s u x y z aa stop bz) (D7 d r_ m f p g q ad a af ae ag ab ac l) [] aay)=>hK _ _ (Ay.unset 6 rfl (by kernel_rfl) e0.plOk) (Cf (e':=(RU s u x y z aa stop bz)) (pl':=(D7 d r_ m f p g q ad a af ae ag ab ac l)) (fun _ hp=>hp.unset 6 rfl (by kernel_rfl)) ?_)
    refine H4 2 3 6 rfl rfl rfl (by kernel_rfl) (by decide) (rfl) (rfl) (rfl) (fun K hK=>?_) (fun K hK=>?_) (fun K hK=>?_)
    ·
     refine Es (JM d r_ m f p g q) _ me e0 rfl rfl (by decide) (by rfl) rfl (fun _ _=>by kernel_rfl) (A9 n e0.has r_ ((Ab (Ad ai) (Ab (Ab Ac Ac) (Ab (Ad aj) (Ab (Ad ak) (Ab Ac (Ab Ac (Ab Ac Ac))))))):rep ax r_ _) (HJ.mk (fun(y0:Rg)=>Al n y0)) (⟨_,_,_,rfl,(show QW ax (.func (.func 55) #[] #[]) (fun(y0:Rg)=>Al n y0) from fun h2 w2 hle hh y0 cs0 hy0 r H=>⟨55,_,_,rfl,fun _ _=>by kernel_rfl,Bo n hh y0 hy0 H⟩)⟩:rep ax (HJ.mk (fun(y0:Rg)=>Al n y0)) _) fW) fun ady sa aaz ace rs ox k4=>?_
     replace ah:=ox _ _ _ ah
     obtain⟨ii,jy,qw,ij,jz,qx,ik,j0,qy,rfl,rfl,sq,sr,ss⟩:=rs
     replace k4:Ah ⟨w,h,A6⟩ sa (RU s u x y z aa stop bz) (D7 d r_ m f p g q ad a af ae ag ab ac l) [⟨ii,aZ.tm.length,jy,3,1,qw,0⟩,⟨ij,aZ.lE.length,jz,3,1,qx,0⟩,⟨ik,aZ.lA.length,j0,29,1,qy,0⟩] aaz:=k4
     refine⟨.one (.agg (Wr aZ ii jy ij jz ik j0)),rfl,fun zj (ui:Kn 123 (RU s u x y z aa stop bz) ((tA 45 (Wr aZ ii jy ij jz ik j0))::(tP 13 6 0)::(Cr d r_ m f p g q bK l)) zj)=>hK _ _ k4.plOk ?_⟩
     refine Ax [2,7,4,1,0] (by kernel_rfl) (by rfl) (qh bz ii jy qw ij jz qx ik j0 qy _ _ ?_)
     exact XY _ ⟨_,rfl,ui.kp,k4,ox,sq,sr,ss⟩
    ·
     refine Bk me e0.plOk rfl (by decide) (by kernel_rfl) fun zk (uj:Kn 123 (RU s u x y z aa stop bz) ((tA 46 (UB d r_ m f p g q))::(tP 13 6 0)::(Cr d r_ m f p g q bK l)) zk)=>hK _ _ e0.plOk ?_
     refine Ax [3,7,4,1,0] (by kernel_rfl) (by rfl) (qj bz _ _ ?_)
     exact XY _ ⟨_,rfl,uj.kp,e0,Ae.le_refl _⟩
    ·
     refine JF 5 UE me e0 fun jf zl aa0 (uk:Kn 123 [(s,0),(u,0),(x,0),(y,0),(z,aa+Wv stop*1),(jf,0),(bz,0)] ((tP 12 5 0)::(tP 13 6 0)::(Cr d r_ m f p g q bK l)) zl) (o9:Ah ⟨w,h,A6⟩ ax [(s,0),(u,0),(x,0),(y,0),(z,aa+Wv stop*1),(jf,0),(bz,0)] (E2 d r_ m f p g q ad a af ae ag ab ac l) [] aa0)=>hK _ _ (Ay.unset 5 rfl (by kernel_rfl) (Ay.forget [5] o9.plOk)) (Cf (e':=[(s,0),(u,0),(x,0),(y,0),(z,aa+Wv stop*1),(jf,0),(bz,0)]) (pl':=(Fh d r_ m f p g q ad a af ae ag ab ac l)) (fun _ hp=>hp.unset 5 rfl (by kernel_rfl)) ?_)
     refine Ax [6,7,4,1,0] (by kernel_rfl) (by rfl) (qk jf bz _ _ ?_)
     exact XY _ ⟨_,rfl,uk.kp,o9,Ae.le_refl _⟩
end Go.Proofs.YtokchpjijlebiaaGreat
