/- Each call computes its plain function. -/
import Derived.Test.YtokchpjijlebiaaGreatProg
import Derived.Test.YtokchpjijlebiaaGreatRQWA
set_option linter.all false
namespace Go.Proofs.YtokchpjijlebiaaGreat
open Go Go.RowKit
set_option maxRecDepth 100000
set_option maxHeartbeats 4000000
open Rep (rep)
open KRep (kv)
open VRep (rv)
theorem Cb (n:Nat) {h:Ae} {w:World} (hh:Dk h w) (l:List Int) {dK:Ww} {dL:Nat} (eT:A4 h dK dL l) {r:List Int} (H:Dz n l=some r) :
  Calls Tryz.prog 37 #[.slice dK l.length dL] w (Dq (fun h v=>∃ a c,v=.slice a r.length c∧A4 h a c r) h w):=by
 refine enter 5 [.c (Wu dK l.length dL)] Tryz.func37 rfl rfl rfl rfl fun t hk=>?_
 have hm:=Ah.begin h w hh
 unfold Dz at H
 refine XT (Aa (Rk 0 1 [tS 0 dK l.length dL] hk hm fun ai y=>?_))
 refine wf (XT (Aa (Rk 0 1 [tS 3 dK l.length dL] y hm fun ak aa=>?_)))
 have p:Ah ⟨w,h,A6⟩ h [] [] [⟨none,0,0,3,1,[],0⟩] w:=hm.nilRow 3 1
 have s:Ag h ([]:List Int) []:=Ag.nil
 obtain⟨f,e,af,_⟩:=id eT
 obtain⟨x4,kI,H⟩:=Av H
 obtain⟨m,ab⟩:=Bb kI
 refine wl fun K hK=>?_
 refine AD 0 8 l.length _ (x4.length) _ f aa p rfl rfl (by decide) rfl (by rfl) (by kernel_rfl) (by rfl) (by rfl) (Ag.len e) (af.cell p.has e.one) e.one (by rw [m]; simp <;> omega) (by rw [m]; exact ab) (by decide) fun b d q ag ah u (x:Kn 5 [] [tS 4 b x4.length d,tS 3 dK l.length dL] ag) j=>?_
 have g:Ag h x4 ([]++f):=by rw [m]; exact Ag.append s e
 obtain rfl:q=0:=Nat.le_zero.1 u
 refine hK _ _ ?_
 refine Rk 2 1 [tS 2 b x4.length d] x j fun aj z=>?_
 refine wf (wp_ret ?_)
 obtain⟨o,ac,ae,k⟩:=j.settle (i:=0) rfl
 replace g:=g.mono ac
 replace k:Ah ⟨w,h,A6⟩ o [] [] [⟨b,x4.length,d,3,1,[]++f,(([]++f):Wx).length⟩] ah:=k
 have ad:A4 o b d x4:=⟨_,g,ae,j.rowCap (i:=0) rfl⟩
 obtain rfl:=XZ H
 exact rt (.one (.c (Wu b x4.length d))) z k ⟨_,_,rfl,ad⟩
theorem F3 (n:Nat) {h:Ae} {w:World} (hh:Dk h w) (a:An) {cS:Wx} (dN:rep h a cS) {r:An} (H:FB n a=some r) :
  Calls Tryz.prog 11 #[.agg cS.toArray] w (Dq (fun h v=>∃ cs,v=.agg cs.toArray∧rep h r cs) h w):=by
 obtain⟨_,_,rfl,⟨b,e,rfl,bb⟩,⟨_,_,rfl,⟨d,f,rfl,aj⟩,⟨g,j,rfl,ak⟩⟩⟩:=dN
 refine enter 13 [.agg (OL b a e d f g j)] Tryz.func11 rfl rfl rfl rfl fun t hk=>?_
 have hm:=Ah.begin h w hh
 unfold FB at H
 refine XT (Aa (wl fun K hK=>?_))
 refine wb (.agg (OL b a e d f g j)) hk hm fun k bf bq (az:Kn 13 [(k,0)] [tP 1 0 0,tA 0 (OL b a e d f g j)] bf) ba=>hK _ _ ?_
 refine wl fun K hK=>?_
 refine wa UE az ba fun m ar br (a0:Kn 13 [(k,0),(m,0)] [tP 2 1 0,tP 1 0 0,tA 0 (OL b a e d f g j)] ar) x=>hK _ _ ?_
 have a1:Kn 13 [(k,0),(m,0)] [tP 2 1 0,tP 1 0 0] ar:=a0.kp
 refine wf (XT (Am (by kernel_rfl) ?_))
 replace x:=x.drew
 refine Ao [] [(k,0),(m,0)] [⟨OL b a e d f g j,some 32⟩,⟨UE,some 50⟩] ?_
 refine Dr [0,1,3,4,6,7] [7,6,4,3,1,0] [tS 10 g a.lC.length j,tS 7 d a.lE.length f,tS 4 b a.lD.length e,tP 2 1 0] a1 x fun bn a2=>?_
 obtain⟨x5,ex5,H⟩:=Av H
 refine Dl 2 fun K hK=>?_
 refine wc [.c (Wu b a.lD.length e)] a2 x (Cb n x.has a.lD bb ex5) fun bo bm bs av am ae=>?_
 replace aj:=aj.mono am
 obtain⟨l,o,rfl,ah⟩:=av
 refine⟨.one (.c (Wu l x5.length o)),rfl,fun bg (a3:Kn 13 [(k,0),(m,0)] [tS 5 l x5.length o,tS 10 g a.lC.length j,tS 7 d a.lE.length f,tS 4 b a.lD.length e,tP 2 1 0] bg)=>hK _ _ ae.plOk ?_⟩
 obtain⟨x8,ex8,H⟩:=Av H
 refine Dl 5 fun K hK=>?_
 refine wc [.c (Wu d a.lE.length f)] a3 ae (Cb n ae.has a.lE aj ex8) fun bp aa bk aw an ao=>?_
 replace ak:=ak.mono (XU am an)
 obtain⟨p,s,rfl,ai⟩:=aw
 refine⟨.one (.c (Wu p x8.length s)),rfl,fun bh (a4:Kn 13 [(k,0),(m,0)] [tS 8 p x8.length s,tS 5 l x5.length o,tS 10 g a.lC.length j,tS 7 d a.lE.length f,tS 4 b a.lD.length e,tP 2 1 0] bh)=>hK _ _ ao.plOk ?_⟩
 have ap:Ah ⟨w,h,A6⟩ aa [(k,0),(m,0)] [⟨OL b a e d f g j,some 32⟩,⟨UE,some 50⟩] [⟨none,0,0,4,1,[],0⟩] bk:=ao.nilRow 4 1
 have ax:Ag aa ([]:List Bool) []:=Ag.nil
 obtain⟨z,y,be,_⟩:=id ak
 obtain⟨cW,fZ,H⟩:=Av H
 obtain⟨al,a9⟩:=Bb fZ
 refine Dl 8 fun K hK=>?_
 refine AD 0 1 a.lC.length _ (cW.length) _ z a4 ap rfl rfl (by decide) rfl (by rfl) (by kernel_rfl) (by rfl) (by rfl) (Ag.len y) (be.cell ap.has y.one) y.one (by rw [al]; simp <;> omega) (by rw [al]; exact a9) (by decide) fun q u au bi bt ay (a5:Kn 13 [(k,0),(m,0)] [tS 11 q cW.length u,tS 8 p x8.length s,tS 5 l x5.length o,tS 10 g a.lC.length j,tS 7 d a.lE.length f,tS 4 b a.lD.length e,tP 2 1 0] bi) af=>?_
 have ac:Ag aa cW ([]++z):=by rw [al]; exact Ag.append ax y
 obtain rfl:au=0:=Nat.le_zero.1 ay
 refine hK _ _ af.plOk ?_
 refine Dr [9] [9,8,5,2,7,6,4,3,1,0] [tA 12 [Wu l x5.length o,Wu p x8.length s,Wu q cW.length u],tP 2 1 0] a5 af fun bj a6=>?_
 refine Cq 10 rfl (by kernel_rfl) (by decide) (rfl) (by kernel_rfl) fun K hK=>?_
 refine EZ 1 0 (.agg [Wu l x5.length o,Wu p x8.length s,Wu q cW.length u]) [Wu l x5.length o,Wu p x8.length s,Wu q cW.length u] a6 af fun bl a7 aq=>hK _ _ ?_
 have a8:Kn 13 [(k,0),(m,0)] [tP 2 1 0] bj:=a7.kp
 refine Em (by kernel_rfl) (wp_ret ?_)
 obtain⟨ab,ad,bd,ag⟩:=aq.settle (i:=0) rfl
 replace ah:=ah.mono (XU an ad)
 replace ai:=ai.mono ad
 replace ac:=ac.mono ad
 replace ag:Ah ⟨w,h,A6⟩ ab [(k,0),(m,0)] [⟨OL b a e d f g j,some 32⟩,⟨[Wu l x5.length o,Wu p x8.length s,Wu q cW.length u],some 50⟩] [⟨q,cW.length,u,4,1,[]++z,(([]++z):Wx).length⟩] bl:=ag
 have bc:A4 ab q u cW:=⟨_,ac,bd,aq.rowCap (i:=0) rfl⟩
 obtain rfl:=XZ H
 exact rt (.one (.agg [Wu l x5.length o,Wu p x8.length s,Wu q cW.length u])) a8 ag ⟨_,rfl,((Ab (Ad ah) (Ab (Ad ai) (Ad bc))):rep ab ((An.mk x5 x8 cW):An) _)⟩
theorem G4 (n:Nat) {h:Ae} {w:World} (hh:Dk h w) (a:An) {cS:Wx} (dN:rep h a cS) {r:An} (H:Gx n a=some r) :
  Calls Tryz.prog 26 #[.agg cS.toArray] w (Dq (fun h v=>∃ cs,v=.agg cs.toArray∧rep h r cs) h w):=by
 obtain⟨_,_,rfl,⟨b,e,rfl,bb⟩,⟨_,_,rfl,⟨d,f,rfl,aj⟩,⟨g,j,rfl,ak⟩⟩⟩:=dN
 refine enter 13 [.agg (OL b a e d f g j)] Tryz.func26 rfl rfl rfl rfl fun t hk=>?_
 have hm:=Ah.begin h w hh
 unfold Gx at H
 refine XT (Aa (wl fun K hK=>?_))
 refine wb (.agg (OL b a e d f g j)) hk hm fun k bf bq (az:Kn 13 [(k,0)] [tP 1 0 0,tA 0 (OL b a e d f g j)] bf) ba=>hK _ _ ?_
 refine wl fun K hK=>?_
 refine wa UE az ba fun m ar br (a0:Kn 13 [(k,0),(m,0)] [tP 2 1 0,tP 1 0 0,tA 0 (OL b a e d f g j)] ar) x=>hK _ _ ?_
 have a1:Kn 13 [(k,0),(m,0)] [tP 2 1 0,tP 1 0 0] ar:=a0.kp
 refine wf (XT (Am (by kernel_rfl) ?_))
 replace x:=x.drew
 refine Ao [] [(k,0),(m,0)] [⟨OL b a e d f g j,some 50⟩,⟨UE,some 32⟩] ?_
 refine Dr [0,1,3,4,6,7] [7,6,4,3,1,0] [tS 10 g a.lC.length j,tS 7 d a.lE.length f,tS 4 b a.lD.length e,tP 2 1 0] a1 x fun bn a2=>?_
 obtain⟨x5,ex5,H⟩:=Av H
 refine Dl 2 fun K hK=>?_
 refine wc [.c (Wu b a.lD.length e)] a2 x (Cb n x.has a.lD bb ex5) fun bo bm bs av am ae=>?_
 replace aj:=aj.mono am
 obtain⟨l,o,rfl,ah⟩:=av
 refine⟨.one (.c (Wu l x5.length o)),rfl,fun bg (a3:Kn 13 [(k,0),(m,0)] [tS 5 l x5.length o,tS 10 g a.lC.length j,tS 7 d a.lE.length f,tS 4 b a.lD.length e,tP 2 1 0] bg)=>hK _ _ ae.plOk ?_⟩
 obtain⟨x8,ex8,H⟩:=Av H
 refine Dl 5 fun K hK=>?_
 refine wc [.c (Wu d a.lE.length f)] a3 ae (Cb n ae.has a.lE aj ex8) fun bp aa bk aw an ao=>?_
 replace ak:=ak.mono (XU am an)
 obtain⟨p,s,rfl,ai⟩:=aw
 refine⟨.one (.c (Wu p x8.length s)),rfl,fun bh (a4:Kn 13 [(k,0),(m,0)] [tS 8 p x8.length s,tS 5 l x5.length o,tS 10 g a.lC.length j,tS 7 d a.lE.length f,tS 4 b a.lD.length e,tP 2 1 0] bh)=>hK _ _ ao.plOk ?_⟩
 have ap:Ah ⟨w,h,A6⟩ aa [(k,0),(m,0)] [⟨OL b a e d f g j,some 50⟩,⟨UE,some 32⟩] [⟨none,0,0,4,1,[],0⟩] bk:=ao.nilRow 4 1
 have ax:Ag aa ([]:List Bool) []:=Ag.nil
 obtain⟨z,y,be,_⟩:=id ak
 obtain⟨cW,fZ,H⟩:=Av H
 obtain⟨al,a9⟩:=Bb fZ
 refine Dl 8 fun K hK=>?_
 refine AD 0 1 a.lC.length _ (cW.length) _ z a4 ap rfl rfl (by decide) rfl (by rfl) (by kernel_rfl) (by rfl) (by rfl) (Ag.len y) (be.cell ap.has y.one) y.one (by rw [al]; simp <;> omega) (by rw [al]; exact a9) (by decide) fun q u au bi bt ay (a5:Kn 13 [(k,0),(m,0)] [tS 11 q cW.length u,tS 8 p x8.length s,tS 5 l x5.length o,tS 10 g a.lC.length j,tS 7 d a.lE.length f,tS 4 b a.lD.length e,tP 2 1 0] bi) af=>?_
 have ac:Ag aa cW ([]++z):=by rw [al]; exact Ag.append ax y
 obtain rfl:au=0:=Nat.le_zero.1 ay
 refine hK _ _ af.plOk ?_
 refine Dr [9] [9,8,5,2,7,6,4,3,1,0] [tA 12 [Wu l x5.length o,Wu p x8.length s,Wu q cW.length u],tP 2 1 0] a5 af fun bj a6=>?_
 refine Cq 10 rfl (by kernel_rfl) (by decide) (rfl) (by kernel_rfl) fun K hK=>?_
 refine EZ 1 0 (.agg [Wu l x5.length o,Wu p x8.length s,Wu q cW.length u]) [Wu l x5.length o,Wu p x8.length s,Wu q cW.length u] a6 af fun bl a7 aq=>hK _ _ ?_
 have a8:Kn 13 [(k,0),(m,0)] [tP 2 1 0] bj:=a7.kp
 refine Em (by kernel_rfl) (wp_ret ?_)
 obtain⟨ab,ad,bd,ag⟩:=aq.settle (i:=0) rfl
 replace ah:=ah.mono (XU an ad)
 replace ai:=ai.mono ad
 replace ac:=ac.mono ad
 replace ag:Ah ⟨w,h,A6⟩ ab [(k,0),(m,0)] [⟨OL b a e d f g j,some 50⟩,⟨[Wu l x5.length o,Wu p x8.length s,Wu q cW.length u],some 32⟩] [⟨q,cW.length,u,4,1,[]++z,(([]++z):Wx).length⟩] bl:=ag
 have bc:A4 ab q u cW:=⟨_,ac,bd,aq.rowCap (i:=0) rfl⟩
 obtain rfl:=XZ H
 exact rt (.one (.agg [Wu l x5.length o,Wu p x8.length s,Wu q cW.length u])) a8 ag ⟨_,rfl,((Ab (Ad ah) (Ab (Ad ai) (Ad bc))):rep ab ((An.mk x5 x8 cW):An) _)⟩
theorem RO (n:Nat) {h:Ae} {w:World} (hh:Dk h w) (a:An) {cS:Wx} (dN:rep h a cS) (b:An) {iG:Wx} (kJ:rep h b iG) {r:Bool} (H:Oo n a b=some r) :
  Calls Tryz.prog 32 #[.agg cS.toArray,.agg iG.toArray] w (Dq (fun h v=>v=.bool r) h w):=by
 obtain⟨_,_,rfl,⟨g,q,rfl,ao⟩,⟨_,_,rfl,⟨l,s,rfl,ap⟩,⟨x,z,rfl,ae⟩⟩⟩:=dN
 obtain⟨_,_,rfl,⟨i,m,rfl,am⟩,⟨_,_,rfl,⟨k,p,rfl,an⟩,⟨u,y,rfl,ad⟩⟩⟩:=kJ
 refine enter 47 [.agg (OL g a q l s x z),.agg (OL i b m k p u y)] Tryz.func32 rfl rfl rfl rfl fun t hk=>?_
 have hm:=Ah.begin h w hh
 unfold Oo at H
 refine XT (Aa (wl fun K hK=>?_))
 refine wb (.agg (OL g a q l s x z)) hk hm fun d cv dm (b1:Kn 47 [(d,0)] [tP 2 0 0,tA 0 (OL g a q l s x z),tA 1 (OL i b m k p u y)] cv) ci=>hK _ _ ?_
 refine wl fun K hK=>?_
 refine wb (.agg (OL i b m k p u y)) b1 ci fun e cw dp (b2:Kn 47 [(d,0),(e,0)] [tP 3 1 0,tP 2 0 0,tA 0 (OL g a q l s x z),tA 1 (OL i b m k p u y)] cw) ar=>hK _ _ ?_
 refine Rk 2 1 EO b2 ar fun c9 b3=>?_
 refine wf (XT (XT ?_))
 obtain⟨bi,aa,H⟩:=Av H
 refine A0 (fun a' w'=>∃ (a7:Array Value)(ah:Ae),a' = ⟨a7,[]⟩∧Kn 47 [(d,0),(e,0)] [tP 3 1 0,tP 2 0 0,tB 28 bi] a7∧Ah ⟨w,h,A6⟩ ah [(d,0),(e,0)] [⟨OL g a q l s x z,some 50⟩,⟨OL i b m k p u y,some 50⟩] [] w'∧Ae.le h ah) ?_ ?_
 ·
  refine Aa (Rk 0 4 ((tS 9 i b.lD.length m)::(tS 7 g a.lD.length q)::EO) b3 ar fun da b4=>?_)
  obtain⟨bP,dS,aa⟩:=Av aa
  refine wl fun K hK=>?_
  refine wc [.c (Wu g a.lD.length q),.c (Wu i b.lD.length m)] b4 ar (JI n ar.has a.lD ao b.lD am dS) fun dj c1 dq bn ab ag=>?_
  replace ao:=ao.mono ab
  replace ap:=ap.mono ab
  replace ae:=ae.mono ab
  replace am:=am.mono ab
  replace an:=an.mono ab
  replace ad:=ad.mono ab
  obtain rfl:=bn
  refine⟨.one (.c (.bool bP)),rfl,fun cx (b5:Kn 47 [(d,0),(e,0)] ((tB 10 bP)::(tS 9 i b.lD.length m)::(tS 7 g a.lD.length q)::EO) cx)=>hK _ _ ?_⟩
  refine Rk 5 2 ((tB 12 (!bP))::EO) b5 ag fun bl bc=>?_
  rcases Xb ((!bP)) with ai | ai
  ·
   rw [ai,XW] at aa
   have b6:Kn 47 [(d,0),(e,0)] ((tB 12 true)::EO) bl:=(bc.setB 12 true (by rfl) ai).kp
   refine Rk 7 16 ((tB 28 true)::EO) b6 ag fun db b7=>?_
   refine wf ?_
   obtain rfl:=XZ aa
   exact XY _ ⟨_,rfl,b7.kp,ag,ab⟩
  ·
   rw [ai,XV] at aa
   have b8:Kn 47 [(d,0),(e,0)] ((tB 12 false)::EO) bl:=(bc.setB 12 false (by rfl) ai).kp
   refine Rk 7 4 ((tS 16 k b.lE.length p)::(tS 14 l a.lE.length s)::(tB 12 false)::EO) b8 ag fun dc bd=>?_
   obtain⟨bM,eU,aa⟩:=Av aa
   refine Bi _ rfl (Aj bd (by kernel_rfl)) fun K hK=>?_
   refine wc [.c (Wu l a.lE.length s),.c (Wu k b.lE.length p)] bd ag (JI n ag.has a.lE ap b.lE an eU) fun dk c2 dr bo bf al=>?_
   obtain rfl:=bo
   refine⟨.one (.c (.bool bM)),rfl,fun cy (b9:Kn 47 [(d,0),(e,0)] ((tB 17 bM)::(tS 16 k b.lE.length p)::(tS 14 l a.lE.length s)::(tB 12 false)::EO) cy)=>hK _ _ ?_⟩
   refine Rk 12 3 ((tB 20 (!bM))::EO) b9 al fun bm be=>?_
   rcases Xb ((!bM)) with aj | aj
   ·
    rw [aj,XW] at aa
    have ca:Kn 47 [(d,0),(e,0)] ((tB 20 true)::EO) bm:=(be.setB 20 true (by rfl) aj).kp
    refine Rk 15 8 ((tB 28 true)::EO) ca al fun dd cb=>?_
    refine wf ?_
    obtain rfl:=XZ aa
    exact XY _ ⟨_,rfl,cb.kp,al,XU ab bf⟩
   ·
    rw [aj,XV] at aa
    have cc:Kn 47 [(d,0),(e,0)] ((tB 20 false)::EO) bm:=(be.setB 20 false (by rfl) aj).kp
    refine Rk 15 8 ((tB 28 (((a.lC.length:Nat):Int) != ((b.lC.length:Nat):Int)))::EO) cc al fun de cd=>?_
    refine wf ?_
    obtain rfl:=XZ aa
    exact XY _ ⟨_,rfl,cd.kp,al,XU ab bf⟩
 ·
  rintro _ ds ⟨a7,ah,rfl,a2,au,af⟩
  replace ao:=ao.mono af
  replace ap:=ap.mono af
  replace ae:=ae.mono af
  replace am:=am.mono af
  replace an:=an.mono af
  replace ad:=ad.mono af
  refine wC (bi) a2 (fun az=>?_) (fun az=>?_)
  ·
   rw [az,XW] at H
   refine XT (Aa (Rk 0 1 [tB 4 false] a2 au fun df ce=>?_))
   refine wf (wp_ret ?_)
   obtain rfl:=XZ H
   exact rt (.one (.c (.bool false))) ce au rfl
  ·
   rw [az,XV] at H
   refine wp_skip (XT (XT (Aa (Rk 0 1 ((tI 5 0)::EO) a2 au fun dg cf=>?_))))
   refine wf ?_
   obtain⟨bj,bb,H⟩:=Av H
   refine A0 (fun a' w'=>∃ (bk:Unit)(a8:Array Value)(aw:Ae),a' = ⟨a8,[]⟩∧Kn 47 [(d,0),(e,0)] [] a8∧Ah ⟨w,h,A6⟩ aw [(d,0),(e,0)] [⟨OL g a q l s x z,some 50⟩,⟨OL i b m k p u y,some 50⟩] [] w'∧Ae.le ah aw∧bj=.go bk) ?_ ?_
   ·
    refine wp_block ?_
    refine Au (fun cr a' w'=>∃ (aA:Int)(a9:Array Value)(ax:Ae),a' = ⟨a9,[]⟩∧Kn 47 [(d,0),(e,0)] ((tI 5 aA)::EO) a9∧Ah ⟨w,h,A6⟩ ax [(d,0),(e,0)] [⟨OL g a q l s x z,some 50⟩,⟨OL i b m k p u y,some 50⟩] [] w'∧Ae.le ah ax∧Gy cr a b aA=some bj) n ?_ ?_
    ·
     exact XY 0 ⟨_,_,rfl,cf.kp,au,Ae.le_refl _,bb⟩
    ·
     rintro a5 _ dt ⟨aA,a9,ax,rfl,cg,ac,aq,f⟩
     clear bb
     obtain _ | a5:=a5
     ·
      rw [Gy] at f; cases f
     rw [Gy] at f
     replace ae:=ae.mono aq
     replace ad:=ad.mono aq
     refine XT (XT (Aa (Rk 0 5 ((tB 33 (decide (aA<((a.lC.length:Nat):Int))))::(tI 5 aA)::EO) cg ac fun dh a3=>?_)))
     refine wf (wC (decide (aA<((a.lC.length:Nat):Int))) a3 (fun a0=>?_) (fun a0=>?_))
     ·
      rw [a0,XW] at f
      refine wp_skip (XT (wp_block (XT (Am (by kernel_rfl) ?_))))
      replace ac:=ac.drew
      refine Ao [] [(d,0),(e,0)] [⟨OL g a q l s x z,some 50⟩,⟨OL i b m k p u y,some 50⟩] ?_
      refine Dr [0,1,2] [2,1,0] ((tI 38 aA)::(tS 37 x a.lC.length z)::(tI 5 aA)::EO) a3 ac fun di ch=>?_
      obtain⟨iN,ex39,f⟩:=Av f
      obtain⟨cj,cl,cp⟩:=Ai ex39
      obtain⟨av,a6,cz,bp,cn,br⟩:=ae.get (by decide) cp
      obtain rfl:=cn
      have a4:=ac.addPlc (b:=av) (o:=a6+Wv aA*1) (cs:=[.bool iN]) (fun j c hj=>br j _ (Ak hj)) rfl (by kernel_rfl) (by kernel_rfl)
      refine Az 3 (aA) [.bool iN] (fun _ _ _ _ _ h=>h) rfl rfl (rfl) rfl (by decide) (by kernel_rfl) (by kernel_rfl) ch ac.plOk (by rfl) (by rfl) (by rfl) bp (by rfl) cj cl (by kernel_rfl) fun ct (bt:Kn 47 [(d,0),(e,0),(av,a6+Wv aA*1)] ((tP 39 2 0)::(tI 38 aA)::(tS 37 x a.lC.length z)::(tI 5 aA)::EO) ct)=>?_
      refine Dr [4,5,6,7] (dn 7) ((tI 43 aA)::(tS 42 u b.lC.length y)::(tB 40 iN)::(tI 5 aA)::EO) bt a4 fun c4 bu=>?_
      obtain⟨cU,iZ,f⟩:=Av f
      obtain⟨ck,cm,cq⟩:=Ai iZ
      obtain⟨ba,bh,c0,bq,co,bs⟩:=ad.get (by decide) cq
      obtain rfl:=co
      have ak:=a4.addPlc (b:=ba) (o:=bh+Wv aA*1) (cs:=[.bool cU]) (fun j c hj=>bs j _ (Ak hj)) rfl (by kernel_rfl) (by kernel_rfl)
      refine Az 8 (aA) [.bool cU] (fun _ _ _ _ _ h=>h) rfl rfl (rfl) rfl (by decide) (by kernel_rfl) (by kernel_rfl) bu a4.plOk (by rfl) (by rfl) (by rfl) bq (by rfl) ck cm (by kernel_rfl) fun cu (bv:Kn 47 [(d,0),(e,0),(av,a6+Wv aA*1),(ba,bh+Wv aA*1)] ((tP 44 3 0)::(tI 43 aA)::(tS 42 u b.lC.length y)::(tB 40 iN)::(tI 5 aA)::EO) cu)=>?_
      refine Dr [9,10] (dn 10) ((tB 46 (!(iN == cU)))::(tI 5 aA)::EO) bv ak fun c5 a1=>?_
      refine A2 (by kernel_rfl) (wC ((!(iN == cU))) a1 (fun ay=>?_) (fun ay=>?_))
      ·
       rw [ay,XW] at f
       refine XT (Aa (Rk 0 1 [tB 4 false] a1 ak fun c6 bw=>?_))
       refine wf (wp_ret ?_)
       obtain rfl:=XZ f
       obtain rfl:=XZ H
       exact rt (.one (.c (.bool false))) bw ak rfl
      ·
       rw [ay,XV] at f
       refine wp_skip (Aa (Rk 0 3 ((tI 5 (Wt (aA+1)))::EO) a1 ak fun c7 bx=>?_))
       refine wf ?_
       exact XY a5 ⟨Xc _,XY (Wt (aA+1)) ⟨_,_,rfl,(bx.keep [5,3,2] (by rfl)).cut 2 (by kernel_rfl),ak.cutPl 2 (by kernel_rfl),aq,f⟩⟩
     ·
      rw [a0,XV] at f
      refine wp_exit ?_
      obtain rfl:=XZ f
      exact XY () ⟨_,_,rfl,a3.kp,ac,aq,rfl⟩
   ·
    rintro _ dl ⟨bk,a8,aw,rfl,bz,bg,c3,rfl⟩
    rw [Ex.bind_go] at H
    refine XT (Aa (Rk 0 1 [tB 4 true] bz bg fun c8 b0=>?_))
    refine wf (wp_ret ?_)
    obtain rfl:=XZ H
    exact rt (.one (.c (.bool true))) b0 bg rfl
abbrev UG (e f l)(p:Nat)(aA:Int)(ab)(ad:Nat)(ak)(au:Nat)(av)(az:Nat):=([(e,0),(f,0),(l,p+Wv aA*1),(ab,ad+Wv aA*1),(ak,au+Wv aA*1),(av,az+Wv aA*3)]:Bh)
abbrev G5 (aA):=([tI 5 aA,tP 3 1 0,tP 2 0 0]:TM)
abbrev LO (aA):=((tB 52 true)::(tB 45 false)::(G5 aA):TM)
theorem ON (n:Nat) {h:Ae} {w:World} (hh:Dk h w) (r_:Af) {aP:Wx} (aW:rep h r_ aP) (a:An) {cS:Wx} (dN:rep h a cS) {r:Bool} (H:Gz n r_ a=some r) :
  Calls Tryz.prog 43 #[.agg aP.toArray,.agg cS.toArray] w (Dq (fun h v=>v=.bool r) h w):=by
 obtain⟨_,_,rfl,⟨q,u,rfl,ap⟩,⟨_,_,rfl,⟨_,_,rfl,rfl,rfl⟩,⟨_,_,rfl,⟨g,i,rfl,aj⟩,⟨_,_,rfl,⟨s,x,rfl,aq⟩,⟨_,_,rfl,rfl,⟨_,_,rfl,rfl,⟨_,_,rfl,rfl,rfl⟩⟩⟩⟩⟩⟩⟩:=aW
 obtain⟨_,_,rfl,⟨y,z,rfl,ao⟩,⟨_,_,rfl,⟨k,m,rfl,ai⟩,⟨aa,ac,rfl,ay⟩⟩⟩:=dN
 refine enter 71 [.agg (UB q r_ u g i s x),.agg (OL y a z k m aa ac)] Tryz.func43 rfl rfl rfl rfl fun t hk=>?_
 have hm:=Ah.begin h w hh
 unfold Gz at H
 refine XT (Aa (wl fun K hK=>?_))
 refine wb (.agg (UB q r_ u g i s x)) hk hm fun e d6 fa (cz:Kn 71 [(e,0)] [tP 2 0 0,tA 0 (UB q r_ u g i s x),tA 1 (OL y a z k m aa ac)] d6) dh=>hK _ _ ?_
 refine wl fun K hK=>?_
 refine wb (.agg (OL y a z k m aa ac)) cz dh fun f d7 fb (c0:Kn 71 [(e,0),(f,0)] [tP 3 1 0,tP 2 0 0,tA 0 (UB q r_ u g i s x),tA 1 (OL y a z k m aa ac)] d7) af=>hK _ _ ?_
 refine Rk 2 1 EO c0 af fun ev c1=>?_
 refine wf (XT (XT ?_))
 obtain⟨bz,al,H⟩:=Av H
 refine A0 (fun a' w'=>∃ (bi:Array Value)(a0:Ae),a' = ⟨bi,[]⟩∧Kn 71 [(e,0),(f,0)] [tP 3 1 0,tP 2 0 0,tB 30 bz] bi∧Ah ⟨w,h,A6⟩ a0 [(e,0),(f,0)] [⟨UB q r_ u g i s x,some 28⟩,⟨OL y a z k m aa ac,some 32⟩] [] w'∧Ae.le h a0) ?_ ?_
 ·
  refine Aa (Rk 0 8 ((tB 13 (((a.lD.length:Nat):Int) != ((r_.lB.length:Nat):Int)))::EO) c1 af fun b4 bv=>?_)
  rcases Xb ((((a.lD.length:Nat):Int) != ((r_.lB.length:Nat):Int))) with a3 | a3
  ·
   rw [a3,XW] at al
   have c2:Kn 71 [(e,0),(f,0)] ((tB 13 true)::EO) b4:=(bv.setB 13 true (by rfl) a3).kp
   refine Rk 8 17 ((tB 30 true)::EO) c2 af fun ew c3=>?_
   refine wf ?_
   obtain rfl:=XZ al
   exact XY _ ⟨_,rfl,c3.kp,af,Ae.le_refl _⟩
  ·
   rw [a3,XV] at al
   have c4:Kn 71 [(e,0),(f,0)] ((tB 13 false)::EO) b4:=(bv.setB 13 false (by rfl) a3).kp
   refine Rk 8 9 ((tB 22 (((a.lE.length:Nat):Int) != ((r_.lB.length:Nat):Int)))::EO) c4 af fun b5 bw=>?_
   rcases Xb ((((a.lE.length:Nat):Int) != ((r_.lB.length:Nat):Int))) with a4 | a4
   ·
    rw [a4,XW] at al
    have c5:Kn 71 [(e,0),(f,0)] ((tB 22 true)::EO) b5:=(bw.setB 22 true (by rfl) a4).kp
    refine Rk 17 8 ((tB 30 true)::EO) c5 af fun ex c6=>?_
    refine wf ?_
    obtain rfl:=XZ al
    exact XY _ ⟨_,rfl,c6.kp,af,Ae.le_refl _⟩
   ·
    rw [a4,XV] at al
    have c7:Kn 71 [(e,0),(f,0)] ((tB 22 false)::EO) b5:=(bw.setB 22 false (by rfl) a4).kp
    refine Rk 17 8 ((tB 30 (((a.lC.length:Nat):Int) != ((r_.lC.length:Nat):Int)))::EO) c7 af fun ey c8=>?_
    refine wf ?_
    obtain rfl:=XZ al
    exact XY _ ⟨_,rfl,c8.kp,af,Ae.le_refl _⟩
 ·
  rintro _ fc ⟨bi,a0,rfl,bd,a6,aw⟩
  replace ap:=ap.mono aw
  replace aj:=aj.mono aw
  replace aq:=aq.mono aw
  replace ao:=ao.mono aw
  replace ai:=ai.mono aw
  replace ay:=ay.mono aw
  refine wC (bz) bd (fun ba=>?_) (fun ba=>?_)
  ·
   rw [ba,XW] at H
   refine XT (Aa (Rk 0 1 [tB 4 false] bd a6 fun ez c9=>?_))
   refine wf (wp_ret ?_)
   obtain rfl:=XZ H
   exact rt (.one (.c (.bool false))) c9 a6 rfl
  ·
   rw [ba,XV] at H
   refine wp_skip (XT (XT (Aa (Rk 0 1 ((tI 5 0)::EO) bd a6 fun e0 da=>?_))))
   refine wf ?_
   obtain⟨b0,bl,H⟩:=Av H
   refine A0 (fun a' w'=>∃ (b1:Unit)(bj:Array Value)(a7:Ae),a' = ⟨bj,[]⟩∧Kn 71 [(e,0),(f,0)] [] bj∧Ah ⟨w,h,A6⟩ a7 [(e,0),(f,0)] [⟨UB q r_ u g i s x,some 28⟩,⟨OL y a z k m aa ac,some 32⟩] [] w'∧Ae.le a0 a7∧b0=.go b1) ?_ ?_
   ·
    refine wp_block ?_
    refine Au (fun d0 a' w'=>∃ (aA:Int)(bk:Array Value)(a8:Ae),a' = ⟨bk,[]⟩∧Kn 71 [(e,0),(f,0)] (G5 aA) bk∧Ah ⟨w,h,A6⟩ a8 [(e,0),(f,0)] [⟨UB q r_ u g i s x,some 28⟩,⟨OL y a z k m aa ac,some 32⟩] [] w'∧Ae.le a0 a8∧CE d0 r_ a aA=some b0) n ?_ ?_
    ·
     exact XY 0 ⟨_,_,rfl,da.kp,a6,Ae.le_refl _,bl⟩
    ·
     rintro ar _ fd ⟨aA,bk,a8,rfl,db,an,ae,d⟩
     clear bl
     obtain _ | ar:=ar
     ·
      rw [CE] at d; cases d
     rw [CE] at d
     replace ap:=ap.mono ae
     replace aj:=aj.mono ae
     replace aq:=aq.mono ae
     replace ao:=ao.mono ae
     replace ai:=ai.mono ae
     replace ay:=ay.mono ae
     refine XT (XT (Aa (Rk 0 5 ((tB 35 (decide (aA<((r_.lB.length:Nat):Int))))::(G5 aA)) db an fun e1 be=>?_)))
     refine wf (wC (decide (aA<((r_.lB.length:Nat):Int))) be (fun bb=>?_) (fun bb=>?_))
     ·
      rw [bb,XW] at d
      refine wp_skip (XT (wp_block (XT (Am (by kernel_rfl) ?_))))
      replace an:=an.drew
      refine Ao [] [(e,0),(f,0)] [⟨UB q r_ u g i s x,some 28⟩,⟨OL y a z k m aa ac,some 32⟩] ?_
      refine Dr [0,1,2] [2,1,0] ((tI 40 aA)::(tS 39 y a.lD.length z)::(G5 aA)) be an fun e2 dc=>?_
      obtain⟨bK,ex41,d⟩:=Av d
      obtain⟨dl,dr,dz⟩:=Ai ex41
      obtain⟨l,p,ed,cd,dv,ch⟩:=ao.get (by decide) dz
      obtain rfl:=dv
      have bh:=an.addPlc (b:=l) (o:=p+Wv aA*1) (cs:=[Ws bK]) (fun j c hj=>ch j _ (Ak hj)) rfl (by kernel_rfl) (by kernel_rfl)
      refine Az 3 (aA) [Ws bK] (fun _ _ _ _ _ h=>h) rfl rfl (rfl) rfl (by decide) (by kernel_rfl) (by kernel_rfl) dc an.plOk (by rfl) (by rfl) (by rfl) cd (by rfl) dl dr (by kernel_rfl) fun d8 (dd:Kn 71 [(e,0),(f,0),(l,p+Wv aA*1)] ((tP 41 2 0)::(tI 40 aA)::(tS 39 y a.lD.length z)::(G5 aA)) d8)=>?_
      refine Dr [4] (dn 4) ((tI 42 bK)::(G5 aA)) dd bh fun e3 de=>?_
      obtain⟨iO,ex43,d⟩:=Av d
      refine Dl 5 fun K hK=>?_
      refine wc [.c (Ws bK),.c (Ws 0),.c (Ws 2)] de bh (Dw ar bh.has bK 0 2 ex43) fun e6 b9 fe b8 ag ah=>?_
      replace ap:=ap.mono ag
      replace aj:=aj.mono ag
      replace aq:=aq.mono ag
      replace ao:=ao.mono ag
      replace ai:=ai.mono ag
      replace ay:=ay.mono ag
      obtain rfl:=b8
      refine⟨.one (.c (.bool iO)),rfl,fun d9 (ci:Kn 71 [(e,0),(f,0),(l,p+Wv aA*1)] ((tB 43 iO)::(tI 42 bK)::(G5 aA)) d9)=>hK _ _ ah.plOk ?_⟩
      refine Dr [6,7] (dn 7) ((tB 45 (!iO))::(G5 aA)) ci ah fun b2 bm=>?_
      rcases Xb ((!iO)) with a1 | a1
      ·
       rw [a1,XW] at d
       have cj:Kn 71 [(e,0),(f,0),(l,p+Wv aA*1)] ((tB 45 true)::(G5 aA)) b2:=(bm.setB 45 true (by rfl) a1).kp
       refine Dr [8,9,10,11,12,13,14,15,16,17,18,19,20,21,22,23,24,25,26,27,28,29,30,31,32] (dn 32) ((tB 70 true)::(G5 aA)) cj ah fun eh bn=>?_
       refine A2 (by kernel_rfl) (wC true bn (fun hb=>?_) (fun hb=>?_))
       rotate_left
       ·
        cases hb
       refine XT (Aa (Rk 0 1 [tB 4 false] bn ah fun ei ck=>?_))
       refine wf (wp_ret ?_)
       obtain rfl:=XZ d
       obtain rfl:=XZ H
       exact rt (.one (.c (.bool false))) ck ah rfl
      ·
       rw [a1,XV] at d
       have cl:Kn 71 [(e,0),(f,0),(l,p+Wv aA*1)] ((tB 45 false)::(G5 aA)) b2:=(bm.setB 45 false (by rfl) a1).kp
       refine Dr [8,9,10] (dn 10) ((tI 48 aA)::(tS 47 k a.lE.length m)::(tB 45 false)::(G5 aA)) cl ah fun ej bo=>?_
       obtain⟨cA,gU,d⟩:=Av d
       obtain⟨di,dm,dw⟩:=Ai gU
       obtain⟨ab,ad,ea,ca,ds,ce⟩:=ai.get (by decide) dw
       obtain rfl:=ds
       have am:=ah.addPlc (b:=ab) (o:=ad+Wv aA*1) (cs:=[Ws cA]) (fun j c hj=>ce j _ (Ak hj)) rfl (by kernel_rfl) (by kernel_rfl)
       refine Az 11 (aA) [Ws cA] (fun _ _ _ _ _ h=>h) rfl rfl (Aj bo (by kernel_rfl)) rfl (by decide) (by kernel_rfl) (by kernel_rfl) bo ah.plOk (by rfl) (by rfl) (by rfl) ca (by rfl) di dm (by kernel_rfl) fun d1 (cm:Kn 71 [(e,0),(f,0),(l,p+Wv aA*1),(ab,ad+Wv aA*1)] ((tP 49 3 0)::(tI 48 aA)::(tS 47 k a.lE.length m)::(tB 45 false)::(G5 aA)) d1)=>?_
       refine Dr [12,13,14] (dn 14) ((tB 52 (cA != (-1)))::(tB 45 false)::(G5 aA)) cm am fun b3 bp=>?_
       rcases Xb ((cA != (-1))) with a2 | a2
       ·
        rw [a2,XW] at d
        have cn:Kn 71 [(e,0),(f,0),(l,p+Wv aA*1),(ab,ad+Wv aA*1)] (LO aA) b3:=(bp.setB 52 true (by rfl) a2).kp
        refine Dr [15,16,17] (dn 17) ((tI 55 aA)::(tS 54 k a.lE.length m)::(LO aA)) cn am fun ek bq=>?_
        obtain⟨dO,kK,d⟩:=Av d
        obtain⟨dj,dp,dx⟩:=Ai kK
        obtain⟨ak,au,eb,cb,dt,cf⟩:=ai.get (by decide) dx
        obtain rfl:=dt
        have bf:=am.addPlc (b:=ak) (o:=au+Wv aA*1) (cs:=[Ws dO]) (fun j c hj=>cf j _ (Ak hj)) rfl (by kernel_rfl) (by kernel_rfl)
        refine Az 18 (aA) [Ws dO] (fun _ _ _ _ _ h=>h) rfl rfl (Aj bq (by kernel_rfl)) rfl (by decide) (by kernel_rfl) (by kernel_rfl) bq am.plOk (by rfl) (by rfl) (by rfl) cb (by rfl) dj dp (by kernel_rfl) fun d2 (co:Kn 71 [(e,0),(f,0),(l,p+Wv aA*1),(ab,ad+Wv aA*1),(ak,au+Wv aA*1)] ((tP 56 4 0)::(tI 55 aA)::(tS 54 k a.lE.length m)::(LO aA)) d2)=>?_
        refine Dr [19,20,21,22] (dn 22) ((tI 60 aA)::(tS 59 g r_.lB.length i)::(tI 57 dO)::(LO aA)) co bf fun el br=>?_
        obtain⟨cF,ge,d⟩:=Av d
        obtain⟨dk,dq,dy⟩:=Ai ge
        obtain⟨av,az,ec,cc,du,cg⟩:=aj.get (by decide) dy
        obtain⟨_,_,rfl,rfl,⟨_,_,rfl,rfl,rfl⟩⟩:=du
        have bg:=bf.addPlc (b:=av) (o:=az+Wv aA*3) (cs:=[Ws cF.stop,Ws cF.tm.lo,Ws cF.tm.hi]) (fun j c hj=>cg j _ (Ak hj)) rfl (by kernel_rfl) (by kernel_rfl)
        refine Az 23 (aA) [Ws cF.stop,Ws cF.tm.lo,Ws cF.tm.hi] (fun _ _ _ _ _ h=>h) rfl rfl (Aj br (by kernel_rfl)) rfl (by decide) (by kernel_rfl) (by kernel_rfl) br bf.plOk (by rfl) (by rfl) (by rfl) cc (by rfl) dk dq (by kernel_rfl) fun d3 (cp:Kn 71 (UG e f l p aA ab ad ak au av az) ((tP 61 5 0)::(tI 60 aA)::(tS 59 g r_.lB.length i)::(tI 57 dO)::(LO aA)) d3)=>?_
        refine Dr [24,25,26] (dn 26) ((tA 64 (UB q r_ u g i s x))::(tI 63 cF.stop)::(tI 57 dO)::(LO aA)) cp bg fun em bs=>?_
        obtain⟨bC,kL,d⟩:=Av d
        refine EJ 27 rfl (by kernel_rfl) (by decide) (Aj bs (by kernel_rfl)) fun K hK=>?_
        refine wc [.agg (UB q r_ u g i s x)] bs bg (Pw ar bg.has r_ ((Ab (Ad ap) (Ab (Ab Ac Ac) (Ab (Ad aj) (Ab (Ad aq) (Ab Ac (Ab Ac (Ab Ac Ac))))))):rep b9 r_ _) kL) fun e4 ee e7 b6 df a5=>?_
        obtain rfl:=b6
        refine⟨.one (.c (Ws bC)),rfl,fun d4 (cq:Kn 71 (UG e f l p aA ab ad ak au av az) ((tI 65 bC)::(tA 64 (UB q r_ u g i s x))::(tI 63 cF.stop)::(tI 57 dO)::(LO aA)) d4)=>hK _ _ a5.plOk ?_⟩
        refine Dr [28] (dn 28) ((tI 66 (Wt (bC-2)))::(tI 63 cF.stop)::(tI 57 dO)::(LO aA)) cq a5 fun en bt=>?_
        obtain⟨x67,ex67,d⟩:=Av d
        refine EJ 29 rfl (by kernel_rfl) (by decide) (Aj bt (by kernel_rfl)) fun K hK=>?_
        refine wc [.c (Ws dO),.c (Ws cF.stop),.c (Ws (Wt (bC-2)))] bt a5 (Dw ar a5.has dO cF.stop (Wt (bC-2)) ex67) fun e5 ef e8 b7 dg ax=>?_
        obtain rfl:=b7
        refine⟨.one (.c (.bool x67)),rfl,fun d5 (cr:Kn 71 (UG e f l p aA ab ad ak au av az) ((tB 67 x67)::(tI 66 (Wt (bC-2)))::(tI 63 cF.stop)::(tI 57 dO)::(LO aA)) d5)=>hK _ _ ax.plOk ?_⟩
        refine Dr [30,31,32] (dn 32) ((tB 70 (!x67))::(G5 aA)) cr ax fun eo bc=>?_
        refine A2 (by kernel_rfl) (wC ((!x67)) bc (fun a9=>?_) (fun a9=>?_))
        ·
         rw [a9,XW] at d
         refine XT (Aa (Rk 0 1 [tB 4 false] bc ax fun ep ct=>?_))
         refine wf (wp_ret ?_)
         obtain rfl:=XZ d
         obtain rfl:=XZ H
         exact rt (.one (.c (.bool false))) ct ax rfl
        ·
         rw [a9,XV] at d
         refine wp_skip (Aa (Rk 0 3 ((tI 5 (Wt (aA+1)))::EO) bc ax fun er cu=>?_))
         refine wf ?_
         exact XY ar ⟨Xc _,XY (Wt (aA+1)) ⟨_,_,rfl,(cu.keep [5,3,2] (by rfl)).cut 2 (by kernel_rfl),ax.cutPl 2 (by kernel_rfl),XU ae (XU ag (XU df dg)),d⟩⟩
       ·
        rw [a2,XV] at d
        have cv:Kn 71 [(e,0),(f,0),(l,p+Wv aA*1),(ab,ad+Wv aA*1)] ((tB 52 false)::(tB 45 false)::(G5 aA)) b3:=(bp.setB 52 false (by rfl) a2).kp
        refine Dr [15,16,17,18,19,20,21,22,23,24,25,26,27,28,29,30,31,32] (dn 32) ((tB 70 false)::(G5 aA)) cv am fun es bu=>?_
        refine A2 (by kernel_rfl) (wC false bu (fun hb=>?_) (fun hb=>?_))
        ·
         cases hb
        refine wp_skip (Aa (Rk 0 3 ((tI 5 (Wt (aA+1)))::EO) bu am fun et cw=>?_))
        refine wf ?_
        exact XY ar ⟨Xc _,XY (Wt (aA+1)) ⟨_,_,rfl,(cw.keep [5,3,2] (by rfl)).cut 2 (by kernel_rfl),am.cutPl 2 (by kernel_rfl),XU ae ag,d⟩⟩
     ·
      rw [bb,XV] at d
      refine wp_exit ?_
      obtain rfl:=XZ d
      exact XY () ⟨_,_,rfl,be.kp,an,ae,rfl⟩
   ·
    rintro _ e9 ⟨b1,bj,a7,rfl,cx,bx,eg,rfl⟩
    rw [Ex.bind_go] at H
    refine XT (Aa (Rk 0 1 [tB 4 true] cx bx fun eu cy=>?_))
    refine wf (wp_ret ?_)
    obtain rfl:=XZ H
    exact rt (.one (.c (.bool true))) cy bx rfl
abbrev OO (a b c):=([Wu a 3 3,Ws 0,Ws 4,Wu b 2 2,Wu c 1 1,Ws 5,Ws 37,Ws 0,Ws 50]:List SC)
abbrev Tc (a):=([tA 5 [Ws 0,Ws 4],tS 4 a 3 3,tP 0 0 0]:TM)
theorem JK (n:Nat) {h:Ae} {w:World} (hh:Dk h w)  {r:Af} (H:J0 n =some r) :
  Calls Tryz.prog 29 #[] w (Dq (fun h v=>∃ cs,v=.agg cs.toArray∧rep h r cs) h w):=by
 refine enter 13 [] Tryz.func29 rfl rfl rfl rfl fun t hk=>?_
 have hm:=Ah.begin h w hh
 unfold J0 at H
 refine XT (Aa (wl fun K hK=>?_))
 refine wa [Wu none 0 0,Ws 0,Ws 0,Wu none 0 0,Wu none 0 0,Ws 0,Ws 0,Ws 0,Ws 0] hk hm fun d aw a6 (an:Kn 13 [(d,0)] [tP 0 0 0] aw) ae=>hK _ _ ?_
 refine wf (XT (Aa (Rk 0 3 [tA 3 [Ws 10,Ws 12],tA 2 [Ws 5,Ws 15],tA 1 [Ws 10,Ws 10],tP 0 0 0] an ae fun a2 ao=>?_)))
 refine wl fun K hK=>?_
 refine wS 44 2 [Ws 10,Ws 10,Ws 5,Ws 15,Ws 10,Ws 12] ao ae fun a az a3 (af:Kn 13 [(d,0)] [tS 4 a 3 3,tA 3 [Ws 10,Ws 12],tA 2 [Ws 5,Ws 15],tA 1 [Ws 10,Ws 10],tP 0 0 0] az) aa=>?_
 have j:Ag h ([Rg.mk 10 10,Rg.mk 5 15,Rg.mk 10 12]:List Rg) ([.int .i64 10,.int .i64 10,.int .i64 5,.int .i64 15,.int .i64 10,.int .i64 12]:Wx):=⟨_,_,rfl,((Ab Ac Ac):rep h ((Rg.mk 10 10):Rg) _),⟨_,_,rfl,((Ab Ac Ac):rep h ((Rg.mk 5 15):Rg) _),⟨_,_,rfl,((Ab Ac Ac):rep h ((Rg.mk 10 12):Rg) _),rfl⟩⟩⟩
 refine hK _ _ ?_
 refine Rk 4 4 ((tA 8 [Ws 0,Ws 10,Ws 20])::(tA 6 [Ws 0,Ws 0,Ws 0])::(Tc a)) af aa fun a0 ag=>?_
 refine wl fun K hK=>?_
 refine wS 87 3 [Ws 0,Ws 0,Ws 0,Ws 0,Ws 10,Ws 20] ag aa fun b av a4 (ah:Kn 13 [(d,0)] ((tS 9 b 2 2)::(tA 8 [Ws 0,Ws 10,Ws 20])::(tA 6 [Ws 0,Ws 0,Ws 0])::(Tc a)) av) ab=>?_
 have k:Ag h ([CW.mk 0 (Rg.mk 0 0),CW.mk 0 (Rg.mk 10 20)]:List CW) ([.int .i64 0,.int .i64 0,.int .i64 0,.int .i64 0,.int .i64 10,.int .i64 20]:Wx):=⟨_,_,rfl,((Ab Ac (Ab Ac Ac)):rep h ((CW.mk 0 (Rg.mk 0 0)):CW) _),⟨_,_,rfl,((Ab Ac (Ab Ac Ac)):rep h ((CW.mk 0 (Rg.mk 10 20)):CW) _),rfl⟩⟩
 refine hK _ _ ?_
 refine Rk 9 1 ((tA 10 [Ws 2,Ws 40])::(tS 9 b 2 2)::(Tc a)) ah ab fun a1 ai=>?_
 refine wl fun K hK=>?_
 refine wS 90 2 [Ws 2,Ws 40] ai ab fun c ax a5 (aj:Kn 13 [(d,0)] ((tS 11 c 1 1)::(tA 10 [Ws 2,Ws 40])::(tS 9 b 2 2)::(Tc a)) ax) ac=>?_
 have l:Ag h ([AK.mk 2 40]:List AK) ([.int .i64 2,.int .i64 40]:Wx):=⟨_,_,rfl,((Ab Ac Ac):rep h ((AK.mk 2 40):AK) _),rfl⟩
 refine hK _ _ ?_
 refine Rk 11 1 [tA 12 (OO a b c),tP 0 0 0] aj ac fun ay ak=>?_
 refine wl fun K hK=>?_
 refine EZ 0 0 (.agg (OO a b c)) (OO a b c) ak ac fun x al ad=>hK _ _ ?_
 have am:Kn 13 [(d,0)] [tP 0 0 0] ay:=al.kp
 refine wf (wp_ret ?_)
 obtain⟨y,m,aq,e⟩:=ad.settle (i:=0) rfl
 replace j:=j.mono m
 replace e:Ah ⟨w,h,A6⟩ y [(d,0)] [⟨OO a b c,some 48⟩] [⟨a,3,3,44,2,([.int .i64 10,.int .i64 10,.int .i64 5,.int .i64 15,.int .i64 10,.int .i64 12]:Wx),(([.int .i64 10,.int .i64 10,.int .i64 5,.int .i64 15,.int .i64 10,.int .i64 12]:Wx):Wx).length⟩,⟨b,2,2,87,3,([.int .i64 0,.int .i64 0,.int .i64 0,.int .i64 0,.int .i64 10,.int .i64 20]:Wx),0⟩,⟨c,1,1,90,2,([.int .i64 2,.int .i64 40]:Wx),0⟩] x:=e
 have s:A4 y a 3 ([Rg.mk 10 10,Rg.mk 5 15,Rg.mk 10 12]:List Rg):=⟨_,j,aq,ad.rowCap (i:=0) rfl⟩
 obtain⟨z,o,ar,f⟩:=e.settle (i:=1) rfl
 replace k:=k.mono (XU m o)
 replace f:Ah ⟨w,h,A6⟩ z [(d,0)] [⟨OO a b c,some 48⟩] [⟨a,3,3,44,2,([.int .i64 10,.int .i64 10,.int .i64 5,.int .i64 15,.int .i64 10,.int .i64 12]:Wx),(([.int .i64 10,.int .i64 10,.int .i64 5,.int .i64 15,.int .i64 10,.int .i64 12]:Wx):Wx).length⟩,⟨b,2,2,87,3,([.int .i64 0,.int .i64 0,.int .i64 0,.int .i64 0,.int .i64 10,.int .i64 20]:Wx),(([.int .i64 0,.int .i64 0,.int .i64 0,.int .i64 0,.int .i64 10,.int .i64 20]:Wx):Wx).length⟩,⟨c,1,1,90,2,([.int .i64 2,.int .i64 40]:Wx),0⟩] x:=f
 have u:A4 z b 2 ([CW.mk 0 (Rg.mk 0 0),CW.mk 0 (Rg.mk 10 20)]:List CW):=⟨_,k,ar,e.rowCap (i:=1) rfl⟩
 obtain⟨g,p,au,q⟩:=f.settle (i:=2) rfl
 replace s:=s.mono (XU o p)
 replace u:=u.mono p
 replace l:=l.mono (XU (XU m o) p)
 replace q:Ah ⟨w,h,A6⟩ g [(d,0)] [⟨OO a b c,some 48⟩] [⟨a,3,3,44,2,([.int .i64 10,.int .i64 10,.int .i64 5,.int .i64 15,.int .i64 10,.int .i64 12]:Wx),(([.int .i64 10,.int .i64 10,.int .i64 5,.int .i64 15,.int .i64 10,.int .i64 12]:Wx):Wx).length⟩,⟨b,2,2,87,3,([.int .i64 0,.int .i64 0,.int .i64 0,.int .i64 0,.int .i64 10,.int .i64 20]:Wx),(([.int .i64 0,.int .i64 0,.int .i64 0,.int .i64 0,.int .i64 10,.int .i64 20]:Wx):Wx).length⟩,⟨c,1,1,90,2,([.int .i64 2,.int .i64 40]:Wx),(([.int .i64 2,.int .i64 40]:Wx):Wx).length⟩] x:=q
 have ap:A4 g c 1 ([AK.mk 2 40]:List AK):=⟨_,l,au,f.rowCap (i:=2) rfl⟩
 obtain rfl:=XZ H
 exact rt (.one (.agg (OO a b c))) am q ⟨_,rfl,((Ab (Ad s) (Ab (Ab Ac Ac) (Ab (Ad u) (Ab (Ad ap) (Ab Ac (Ab Ac (Ab Ac Ac))))))):rep g ((Af.mk ([Rg.mk 10 10,Rg.mk 5 15,Rg.mk 10 12]:List Rg) (Rg.mk 0 4) ([CW.mk 0 (Rg.mk 0 0),CW.mk 0 (Rg.mk 10 20)]:List CW) ([AK.mk 2 40]:List AK) 5 37 0 50):Af) _)⟩
abbrev OP (a b c):=([Wu a 2 2,Wu b 2 2,Wu c 1 1]:List SC)
theorem RP (n:Nat) {h:Ae} {w:World} (hh:Dk h w)  {r:An} (H:Oq n =some r) :
  Calls Tryz.prog 30 #[] w (Dq (fun h v=>∃ cs,v=.agg cs.toArray∧rep h r cs) h w):=by
 refine enter 5 [] Tryz.func30 rfl rfl rfl rfl fun t hk=>?_
 have hm:=Ah.begin h w hh
 unfold Oq at H
 refine XT (Aa (wl fun K hK=>?_))
 refine wa [Wu none 0 0,Wu none 0 0,Wu none 0 0] hk hm fun d au az (ah:Kn 5 [(d,0)] [tP 0 0 0] au) al=>hK _ _ ?_
 refine wf (XT (Aa (wl fun K hK=>?_)))
 refine wS 3 1 [Ws 0,Ws 0] ah al fun a aw a0 (ai:Kn 5 [(d,0)] [tS 1 a 2 2,tP 0 0 0] aw) aj=>?_
 have j:Ag h ([0,0]:List Int) ([.int .i64 0,.int .i64 0]:Wx):=⟨_,_,rfl,(Ac:rep h (0:Int) _),⟨_,_,rfl,(Ac:rep h (0:Int) _),rfl⟩⟩
 refine hK _ _ ?_
 refine wl fun K hK=>?_
 refine wS 3 1 [Ws (-1),Ws (-1)] ai aj fun b aq ax (ac:Kn 5 [(d,0)] [tS 2 b 2 2,tS 1 a 2 2,tP 0 0 0] aq) ak=>?_
 have k:Ag h ([(-1),(-1)]:List Int) ([.int .i64 (-1),.int .i64 (-1)]:Wx):=⟨_,_,rfl,(Ac:rep h ((-1):Int) _),⟨_,_,rfl,(Ac:rep h ((-1):Int) _),rfl⟩⟩
 refine hK _ _ ?_
 refine wl fun K hK=>?_
 refine wS 4 1 [.bool false] ac ak fun c ar ay (ad:Kn 5 [(d,0)] [tS 3 c 1 1,tS 2 b 2 2,tS 1 a 2 2,tP 0 0 0] ar) aa=>?_
 have l:Ag h ([false]:List Bool) ([.bool false]:Wx):=⟨_,_,rfl,(B3:rep h (false:Bool) _),rfl⟩
 refine hK _ _ ?_
 refine Rk 3 1 [tA 4 (OP a b c),tP 0 0 0] ad aa fun av ae=>?_
 refine wl fun K hK=>?_
 refine EZ 0 0 (.agg (OP a b c)) (OP a b c) ae aa fun x af ab=>hK _ _ ?_
 have ag:Kn 5 [(d,0)] [tP 0 0 0] av:=af.kp
 refine wf (wp_ret ?_)
 obtain⟨y,m,an,e⟩:=ab.settle (i:=0) rfl
 replace j:=j.mono m
 replace e:Ah ⟨w,h,A6⟩ y [(d,0)] [⟨OP a b c,some 50⟩] [⟨a,2,2,3,1,([.int .i64 0,.int .i64 0]:Wx),(([.int .i64 0,.int .i64 0]:Wx):Wx).length⟩,⟨b,2,2,3,1,([.int .i64 (-1),.int .i64 (-1)]:Wx),0⟩,⟨c,1,1,4,1,([.bool false]:Wx),0⟩] x:=e
 have s:A4 y a 2 ([0,0]:List Int):=⟨_,j,an,ab.rowCap (i:=0) rfl⟩
 obtain⟨z,o,ao,f⟩:=e.settle (i:=1) rfl
 replace k:=k.mono (XU m o)
 replace f:Ah ⟨w,h,A6⟩ z [(d,0)] [⟨OP a b c,some 50⟩] [⟨a,2,2,3,1,([.int .i64 0,.int .i64 0]:Wx),(([.int .i64 0,.int .i64 0]:Wx):Wx).length⟩,⟨b,2,2,3,1,([.int .i64 (-1),.int .i64 (-1)]:Wx),(([.int .i64 (-1),.int .i64 (-1)]:Wx):Wx).length⟩,⟨c,1,1,4,1,([.bool false]:Wx),0⟩] x:=f
 have u:A4 z b 2 ([(-1),(-1)]:List Int):=⟨_,k,ao,e.rowCap (i:=1) rfl⟩
 obtain⟨g,p,ap,q⟩:=f.settle (i:=2) rfl
 replace s:=s.mono (XU o p)
 replace u:=u.mono p
 replace l:=l.mono (XU (XU m o) p)
 replace q:Ah ⟨w,h,A6⟩ g [(d,0)] [⟨OP a b c,some 50⟩] [⟨a,2,2,3,1,([.int .i64 0,.int .i64 0]:Wx),(([.int .i64 0,.int .i64 0]:Wx):Wx).length⟩,⟨b,2,2,3,1,([.int .i64 (-1),.int .i64 (-1)]:Wx),(([.int .i64 (-1),.int .i64 (-1)]:Wx):Wx).length⟩,⟨c,1,1,4,1,([.bool false]:Wx),(([.bool false]:Wx):Wx).length⟩] x:=q
 have am:A4 g c 1 ([false]:List Bool):=⟨_,l,ap,f.rowCap (i:=2) rfl⟩
 obtain rfl:=XZ H
 exact rt (.one (.agg (OP a b c))) ag q ⟨_,rfl,((Ab (Ad s) (Ab (Ad u) (Ad am))):rep g ((An.mk ([0,0]:List Int) ([(-1),(-1)]:List Int) ([false]:List Bool)):An) _)⟩
theorem RQ (n:Nat) {h:Ae} {w:World} (hh:Dk h w)  {r:An} (H:Ot n =some r) :
  Calls Tryz.prog 33 #[] w (Dq (fun h v=>∃ cs,v=.agg cs.toArray∧rep h r cs) h w):=by
 refine enter 5 [] Tryz.func33 rfl rfl rfl rfl fun t hk=>?_
 have hm:=Ah.begin h w hh
 unfold Ot at H
 refine XT (Aa (wl fun K hK=>?_))
 refine wa [Wu none 0 0,Wu none 0 0,Wu none 0 0] hk hm fun d au az (ah:Kn 5 [(d,0)] [tP 0 0 0] au) al=>hK _ _ ?_
 refine wf (XT (Aa (wl fun K hK=>?_)))
 refine wS 3 1 [Ws 0,Ws 1] ah al fun a aw a0 (ai:Kn 5 [(d,0)] [tS 1 a 2 2,tP 0 0 0] aw) aj=>?_
 have j:Ag h ([0,1]:List Int) ([.int .i64 0,.int .i64 1]:Wx):=⟨_,_,rfl,(Ac:rep h (0:Int) _),⟨_,_,rfl,(Ac:rep h (1:Int) _),rfl⟩⟩
 refine hK _ _ ?_
 refine wl fun K hK=>?_
 refine wS 3 1 [Ws (-1),Ws (-1)] ai aj fun b aq ax (ac:Kn 5 [(d,0)] [tS 2 b 2 2,tS 1 a 2 2,tP 0 0 0] aq) ak=>?_
 have k:Ag h ([(-1),(-1)]:List Int) ([.int .i64 (-1),.int .i64 (-1)]:Wx):=⟨_,_,rfl,(Ac:rep h ((-1):Int) _),⟨_,_,rfl,(Ac:rep h ((-1):Int) _),rfl⟩⟩
 refine hK _ _ ?_
 refine wl fun K hK=>?_
 refine wS 4 1 [.bool false] ac ak fun c ar ay (ad:Kn 5 [(d,0)] [tS 3 c 1 1,tS 2 b 2 2,tS 1 a 2 2,tP 0 0 0] ar) aa=>?_
 have l:Ag h ([false]:List Bool) ([.bool false]:Wx):=⟨_,_,rfl,(B3:rep h (false:Bool) _),rfl⟩
 refine hK _ _ ?_
 refine Rk 3 1 [tA 4 (OP a b c),tP 0 0 0] ad aa fun av ae=>?_
 refine wl fun K hK=>?_
 refine EZ 0 0 (.agg (OP a b c)) (OP a b c) ae aa fun x af ab=>hK _ _ ?_
 have ag:Kn 5 [(d,0)] [tP 0 0 0] av:=af.kp
 refine wf (wp_ret ?_)
 obtain⟨y,m,an,e⟩:=ab.settle (i:=0) rfl
 replace j:=j.mono m
 replace e:Ah ⟨w,h,A6⟩ y [(d,0)] [⟨OP a b c,some 50⟩] [⟨a,2,2,3,1,([.int .i64 0,.int .i64 1]:Wx),(([.int .i64 0,.int .i64 1]:Wx):Wx).length⟩,⟨b,2,2,3,1,([.int .i64 (-1),.int .i64 (-1)]:Wx),0⟩,⟨c,1,1,4,1,([.bool false]:Wx),0⟩] x:=e
 have s:A4 y a 2 ([0,1]:List Int):=⟨_,j,an,ab.rowCap (i:=0) rfl⟩
 obtain⟨z,o,ao,f⟩:=e.settle (i:=1) rfl
 replace k:=k.mono (XU m o)
 replace f:Ah ⟨w,h,A6⟩ z [(d,0)] [⟨OP a b c,some 50⟩] [⟨a,2,2,3,1,([.int .i64 0,.int .i64 1]:Wx),(([.int .i64 0,.int .i64 1]:Wx):Wx).length⟩,⟨b,2,2,3,1,([.int .i64 (-1),.int .i64 (-1)]:Wx),(([.int .i64 (-1),.int .i64 (-1)]:Wx):Wx).length⟩,⟨c,1,1,4,1,([.bool false]:Wx),0⟩] x:=f
 have u:A4 z b 2 ([(-1),(-1)]:List Int):=⟨_,k,ao,e.rowCap (i:=1) rfl⟩
 obtain⟨g,p,ap,q⟩:=f.settle (i:=2) rfl
 replace s:=s.mono (XU o p)
 replace u:=u.mono p
 replace l:=l.mono (XU (XU m o) p)
 replace q:Ah ⟨w,h,A6⟩ g [(d,0)] [⟨OP a b c,some 50⟩] [⟨a,2,2,3,1,([.int .i64 0,.int .i64 1]:Wx),(([.int .i64 0,.int .i64 1]:Wx):Wx).length⟩,⟨b,2,2,3,1,([.int .i64 (-1),.int .i64 (-1)]:Wx),(([.int .i64 (-1),.int .i64 (-1)]:Wx):Wx).length⟩,⟨c,1,1,4,1,([.bool false]:Wx),(([.bool false]:Wx):Wx).length⟩] x:=q
 have am:A4 g c 1 ([false]:List Bool):=⟨_,l,ap,f.rowCap (i:=2) rfl⟩
 obtain rfl:=XZ H
 exact rt (.one (.agg (OP a b c))) ag q ⟨_,rfl,((Ab (Ad s) (Ab (Ad u) (Ad am))):rep g ((An.mk ([0,1]:List Int) ([(-1),(-1)]:List Int) ([false]:List Bool)):An) _)⟩
end Go.Proofs.YtokchpjijlebiaaGreat
