/- Each call computes its plain function. -/
import Derived.Test.YtokchpjijlebiaaGreatProg
import Derived.Test.YtokchpjijlebiaaGreatRQWC
import Derived.Test.YtokchpjijlebiaaGreatRQWC1
import Derived.Test.YtokchpjijlebiaaGreatRQWE
import Derived.Test.YtokchpjijlebiaaGreatRQWJ1
import Derived.Test.YtokchpjijlebiaaGreatRQWK1
import Derived.Test.YtokchpjijlebiaaGreatRQWM1
set_option linter.all false
namespace Go.Proofs.YtokchpjijlebiaaGreat
open Go Go.RowKit
set_option maxRecDepth 100000
set_option maxHeartbeats 4000000
open Rep (rep)
open KRep (kv)
open VRep (rv)
theorem Vz {α:Type} {F:(α→Prop)→Prop} {q:α→Prop} (H:F q):∃ Q,Q=q∧F Q:=⟨q,rfl,H⟩
abbrev ER (bn)(cC:Ap×Int)(bq bo br bp bs):=((Wr cC.1 bn bq bo br bp bs):List SC)
abbrev Qi (f g k p)(q:Nat)(aB:Int)(ab)(ac:Nat)(ad)(ae:Nat):=([(f,0),(g,0),(k,0),(p,q+Wv aB*3),(ab,ac+Wv aB*3),(ad,ae+Wv aB*3),(0,0)]:Bh)
abbrev DV (f g k p)(q:Nat)(aB:Int)(ab)(ac:Nat)(ad)(ae:Nat)(ah):=([(f,0),(g,0),(k,0),(p,q+Wv aB*3),(ab,ac+Wv aB*3),(ad,ae+Wv aB*3),(ah,0)]:Bh)
abbrev Jf (f g k p)(q:Nat)(aB:Int)(ab)(ac:Nat)(ad)(ae:Nat)(ah ch)(co:Nat):=([(f,0),(g,0),(k,0),(p,q+Wv aB*3),(ab,ac+Wv aB*3),(ad,ae+Wv aB*3),(ah,0),(ch,co+Wv aB*3)]:Bh)
abbrev Sd (f g k p)(q:Nat)(aB:Int)(ab)(ac:Nat)(ad)(ae:Nat)(ah c7)(db:Nat)(aH:Int)(dt)(d8:Nat)(ef)(es:Nat):=([(f,0),(g,0),(k,0),(p,q+Wv aB*3),(ab,ac+Wv aB*3),(ad,ae+Wv aB*3),(ah,0),(c7,db+Wv aH*1),(dt,d8+Wv aH*1),(ef,es+Wv aH*1)]:Bh)
abbrev Iq (d)(aC:List An)(e)(b7:Wx):=([⟨d,aC.length,e,50,3,b7,(b7:Wx).length⟩]:List CO)
abbrev FX (s)(r_:Af)(y u z x aa aw)(a:An)(az ax a0 ay a1 ai)(bZ:An×Int)(am aj an ak al bc)(cF:An)(bf bd bg be bh a5)(dP:An)(a8 a6 a9 a7 ba ao)(cX:An)(ar ap au aq av):=([⟨UB s r_ y u z x aa,some 28⟩,⟨OL aw a az ax a0 ay a1,some 32⟩,⟨Nx ai bZ am aj an ak al,some 50⟩,⟨OL bc cF bf bd bg be bh,none⟩,⟨OL a5 dP a8 a6 a9 a7 ba,none⟩,⟨OL ao cX ar ap au aq av,none⟩,⟨UE,some 52⟩]:List Db)
abbrev BN (l)(bC:(List Int)×Int)(m aB d)(aC:List An)(e)(stop:IK .u8)(aV aE)(words:List (IK .u16))(aF):=([tS 14 l bC.1.length m,tI 13 aB,tS 12 d aC.length e,tI 9 (Int.tmod (Wt stop.n) aV),tP 4 0 0,tS 2 aE words.length aF]:TM)
abbrev DL (stop:IK .u8)(aV aE)(words:List (IK .u16))(aF):=([tI 9 (Int.tmod (Wt stop.n) aV),tP 4 0 0,tS 2 aE words.length aF]:TM)
abbrev JV (stop:IK .u8)(aV ao)(cX:An)(ar ap au aq av s)(r_:Af)(y u z x aa)(bL:(List Int)×Int)(af ag)(bC:(List Int)×Int)(l m aB d)(aC:List An)(e aE)(words:List (IK .u16))(aF):=((tI 93 (Int.tmod (Wt stop.n) aV))::(tA 90 (OL ao cX ar ap au aq av))::(tA 85 (UB s r_ y u z x aa))::(tI 17 bL.2)::(tS 16 af bL.1.length ag)::(tI 15 bC.2)::(BN l bC m aB d aC e stop aV aE words aF):TM)
abbrev BM (af)(bL:(List Int)×Int)(ag l)(bC:(List Int)×Int)(m aB d)(aC:List An)(e)(stop:IK .u8)(aV aE)(words:List (IK .u16))(aF):=((tP 18 6 0)::(tS 16 af bL.1.length ag)::(BN l bC m aB d aC e stop aV aE words aF):TM)
theorem Lh (n:Nat) {h:Ae} {w:World} (hh:Dk h w) (r_:Af) {aP:Wx} (aW:rep h r_ aP) (a:An) {cS:Wx} (dN:rep h a cS) (words:List (IK .u16)) {aE:Ww} {aF:Nat} (aY:A4 h aE aF words) (stop:IK .u8) {Q:Bool→Prop} (H:Ft n r_ a words stop Q) :
  Calls Tryz.prog 5 #[.agg aP.toArray,.agg cS.toArray,.slice aE words.length aF,.int .u8 stop.n] w (Dq (fun h v=>∃ r,Q r∧v=.bool r) h w):=by
 obtain⟨_,_,rfl,⟨s,y,rfl,a2⟩,⟨_,_,rfl,⟨_,_,rfl,rfl,rfl⟩,⟨_,_,rfl,⟨u,z,rfl,a3⟩,⟨_,_,rfl,⟨x,aa,rfl,a4⟩,⟨_,_,rfl,rfl,⟨_,_,rfl,rfl,⟨_,_,rfl,rfl,rfl⟩⟩⟩⟩⟩⟩⟩:=aW
 obtain⟨_,_,rfl,⟨aw,az,rfl,bz⟩,⟨_,_,rfl,⟨ax,a0,rfl,b0⟩,⟨ay,a1,rfl,b1⟩⟩⟩:=dN
 refine enter 199 [.agg (UB s r_ y u z x aa),.agg (OL aw a az ax a0 ay a1),.c (Wu aE words.length aF),.c (.int .u8 stop.n)] Tryz.func5 rfl rfl rfl rfl fun t hk=>?_
 have hm:=Ah.begin h w hh
 unfold Ft at H
 refine XT (Aa (wl fun K hK=>?_))
 refine wb (.agg (UB s r_ y u z x aa)) hk hm fun f zr aer (s4:Kn 199 [(f,0)] [tP 4 0 0,tA 0 (UB s r_ y u z x aa),tA 1 (OL aw a az ax a0 ay a1),tS 2 aE words.length aF,(3,.one (.c (.int .u8 stop.n)))] zr) we=>hK _ _ ?_
 refine wl fun K hK=>?_
 refine wb (.agg (OL aw a az ax a0 ay a1)) s4 we fun g zt aet (s8:Kn 199 [(f,0),(g,0)] [tP 5 1 0,tP 4 0 0,tA 0 (UB s r_ y u z x aa),tA 1 (OL aw a az ax a0 ay a1),tS 2 aE words.length aF,(3,.one (.c (.int .u8 stop.n)))] zt) j8=>hK _ _ ?_
 refine Rk 2 1 [tP 5 1 0,tP 4 0 0,tS 2 aE words.length aF,(3,.one (.c (.int .u8 stop.n)))] s8 j8 fun ab3 tb=>?_
 refine wf (XT (XT (Aa (Rk 0 2 [tA 24 (OL aw a az ax a0 ay a1),tA 23 (UB s r_ y u z x aa),tP 5 1 0,tP 4 0 0,tS 2 aE words.length aF,(3,.one (.c (.int .u8 stop.n)))] tb j8 fun ab6 tf=>?_))))
 obtain⟨dU,iY,H⟩:=H
 refine wl fun K hK=>?_
 refine wc [.agg (UB s r_ y u z x aa),.agg (OL aw a az ax a0 ay a1)] tf j8 (QQ n j8.has r_ ((Ab (Ad a2) (Ab (Ab Ac Ac) (Ab (Ad a3) (Ab (Ad a4) (Ab Ac (Ab Ac (Ab Ac Ac))))))):rep h r_ _) a ((Ab (Ad bz) (Ab (Ad b0) (Ad b1))):rep h a _) iY) fun adq q9 aey qi ga gz=>?_
 replace a2:=a2.mono ga
 replace a3:=a3.mono ga
 replace a4:=a4.mono ga
 replace bz:=bz.mono ga
 replace b0:=b0.mono ga
 replace b1:=b1.mono ga
 replace aY:=aY.mono ga
 obtain rfl:=qi
 refine⟨.one (.c (.bool dU)),rfl,fun z2 (tl:Kn 199 [(f,0),(g,0)] [tB 25 dU,tA 24 (OL aw a az ax a0 ay a1),tA 23 (UB s r_ y u z x aa),tP 5 1 0,tP 4 0 0,tS 2 aE words.length aF,(3,.one (.c (.int .u8 stop.n)))] z2)=>hK _ _ ?_⟩
 refine Rk 3 1 [tB 26 (!dU),tP 5 1 0,tP 4 0 0,tS 2 aE words.length aF,(3,.one (.c (.int .u8 stop.n)))] tl gz fun ab8 ln=>?_
 refine wf (wC ((!dU)) ln (fun ld=>?_) (fun ld=>?_))
 ·
  rw [ld,XW] at H
  refine XT (Aa ?_)
  obtain⟨gF,jG,H⟩:=H
  refine wl fun K hK=>?_
  refine wc [] ln gz (LQ n gz.has  jG) fun adx abe ae4 qn abn o4=>?_
  obtain rfl:=qn
  refine⟨.one (.c (.bool gF)),rfl,fun z8 (t7:Kn 199 [(f,0),(g,0)] [tB 27 gF,tB 26 (!dU),tP 5 1 0,tP 4 0 0,tS 2 aE words.length aF,(3,.one (.c (.int .u8 stop.n)))] z8)=>hK _ _ ?_⟩
  refine Rk 1 1 [tB 8 gF] t7 o4 fun acg ud=>?_
  refine wf (wp_ret ?_)
  exact rt (.one (.c (.bool gF))) ud o4 ⟨_,H,rfl⟩
 ·
  rw [ld,XV] at H
  refine wp_skip (XT (Aa (Rk 0 3 [tA 30 (UB s r_ y u z x aa),tI 29 (Wt stop.n),tP 5 1 0,tP 4 0 0,tS 2 aE words.length aF] ln gz fun ack ug=>?_)))
  obtain⟨aV,fP,H⟩:=H
  refine wl fun K hK=>?_
  refine wc [.agg (UB s r_ y u z x aa)] ug gz (GT n gz.has r_ ((Ab (Ad a2) (Ab (Ab Ac Ac) (Ab (Ad a3) (Ab (Ad a4) (Ab Ac (Ab Ac (Ab Ac Ac))))))):rep q9 r_ _) fP) fun ad1 re afc qr gb ka=>?_
  replace a2:=a2.mono gb
  replace a3:=a3.mono gb
  replace a4:=a4.mono gb
  obtain rfl:=qr
  refine⟨.one (.c (Ws aV)),rfl,fun aad (uu:Kn 199 [(f,0),(g,0)] [tI 31 aV,tA 30 (UB s r_ y u z x aa),tI 29 (Wt stop.n),tP 5 1 0,tP 4 0 0,tS 2 aE words.length aF] aad)=>hK _ _ ?_⟩
  obtain⟨x32,ex32,H⟩:=H
  refine V3 4 uu rfl rfl (rfl) rfl (by decide) (by rfl) (by rfl) (QA ex32) fun aag (uz:Kn 199 [(f,0),(g,0)] [tI 32 (Int.tmod (Wt stop.n) aV),tI 31 aV,tA 30 (UB s r_ y u z x aa),tI 29 (Wt stop.n),tP 5 1 0,tP 4 0 0,tS 2 aE words.length aF] aag)=>?_
  refine Rk 5 1 [tI 9 (Int.tmod (Wt stop.n) aV),tP 5 1 0,tP 4 0 0,tS 2 aE words.length aF] uz ka fun acx u3=>?_
  refine wf (XT (Aa (Rk 0 1 [tA 34 (UB s r_ y u z x aa),tI 9 (Int.tmod (Wt stop.n) aV),tP 5 1 0,tP 4 0 0,tS 2 aE words.length aF] u3 ka fun ac3 va=>?_)))
  obtain⟨cO,jA,H⟩:=H
  refine wl fun K hK=>?_
  refine wc [.agg (UB s r_ y u z x aa)] va ka (Fa n ka.has r_ ((Ab (Ad a2) (Ab (Ab Ac Ac) (Ab (Ad a3) (Ab (Ad a4) (Ab Ac (Ab Ac (Ab Ac Ac))))))):rep re r_ _) jA) fun ad2 rg aff qu gc o5=>?_
  obtain⟨_,rfl,⟨_,_,rfl,⟨gn,gu,rfl,xz⟩,⟨_,_,rfl,⟨_,_,rfl,rfl,rfl⟩,⟨_,_,rfl,⟨go,gv,rfl,x4⟩,⟨_,_,rfl,⟨gp,gw,rfl,x5⟩,⟨_,_,rfl,rfl,⟨_,_,rfl,rfl,⟨_,_,rfl,rfl,rfl⟩⟩⟩⟩⟩⟩⟩⟩:=qu
  refine⟨.one (.agg (UB gn cO gu go gv gp gw)),rfl,fun aar (vu:Kn 199 [(f,0),(g,0)] [tA 35 (UB gn cO gu go gv gp gw),tA 34 (UB s r_ y u z x aa),tI 9 (Int.tmod (Wt stop.n) aV),tP 5 1 0,tP 4 0 0,tS 2 aE words.length aF] aar)=>hK _ _ ?_⟩
  obtain⟨bZ,iV,H⟩:=H
  refine wl fun K hK=>?_
  refine wc [.agg (UB gn cO gu go gv gp gw)] vu o5 (Ji n o5.has cO ((Ab (Ad xz) (Ab (Ab Ac Ac) (Ab (Ad x4) (Ab (Ad x5) (Ab Ac (Ab Ac (Ab Ac Ac))))))):rep rg cO _) iV) fun ad9 rk afn q0 gd o7=>?_
  replace bz:=bz.mono (XU (XU gb gc) gd)
  replace b0:=b0.mono (XU (XU gb gc) gd)
  replace b1:=b1.mono (XU (XU gb gc) gd)
  obtain⟨_,_,rfl,⟨_,rfl,⟨_,_,rfl,⟨ai,am,rfl,cb⟩,⟨_,_,rfl,⟨aj,an,rfl,cc⟩,⟨ak,al,rfl,b9⟩⟩⟩⟩,rfl⟩:=q0
  refine⟨.tup [.agg (Nx ai bZ am aj an ak al),.c (Ws bZ.2)],rfl,fun zc (sa:Kn 199 [(f,0),(g,0)] [(36,.tup [.agg (Nx ai bZ am aj an ak al),.c (Ws bZ.2)]),tA 35 (UB gn cO gu go gv gp gw),tA 34 (UB s r_ y u z x aa),tI 9 (Int.tmod (Wt stop.n) aV),tP 5 1 0,tP 4 0 0,tS 2 aE words.length aF] zc)=>hK _ _ ?_⟩
  refine Rk 3 3 [tI 38 bZ.2,tA 37 (Nx ai bZ am aj an ak al),tI 9 (Int.tmod (Wt stop.n) aV),tP 5 1 0,tP 4 0 0,tS 2 aE words.length aF] sa o7 fun abo sc=>?_
  refine wl fun K hK=>?_
  refine wa UE sc o7 fun k zj aei (sj:Kn 199 [(f,0),(g,0),(k,0)] [tP 10 2 0,tI 38 bZ.2,tA 37 (Nx ai bZ am aj an ak al),tI 9 (Int.tmod (Wt stop.n) aV),tP 5 1 0,tP 4 0 0,tS 2 aE words.length aF] zj) v9=>hK _ _ ?_
  refine wl fun K hK=>?_
  refine EZ 2 0 (.agg (Nx ai bZ am aj an ak al)) (Nx ai bZ am aj an ak al) sj v9 fun ael sp j6=>hK _ _ ?_
  refine Rk 8 1 [tI 11 bZ.2,tP 10 2 0,tI 9 (Int.tmod (Wt stop.n) aV),tP 5 1 0,tP 4 0 0,tS 2 aE words.length aF] sp j6 fun abr sq=>?_
  refine wf (XT (Aa (Rk 0 1 ((tA 39 (OL aw a az ax a0 ay a1))::(tI 11 bZ.2)::(tP 10 2 0)::(DL stop aV aE words aF)) sq j6 fun abs sr=>?_)))
  obtain⟨cJ,gL,H⟩:=H
  refine wl fun K hK=>?_
  refine wc [.agg (OL aw a az ax a0 ay a1)] sr j6 (F3 n j6.has a ((Ab (Ad bz) (Ab (Ad b0) (Ad b1))):rep rk a _) gL) fun adl gx aem qb d4 wd=>?_
  replace a2:=a2.mono (XU (XU gc gd) d4)
  replace a3:=a3.mono (XU (XU gc gd) d4)
  replace a4:=a4.mono (XU (XU gc gd) d4)
  replace bz:=bz.mono d4
  replace b0:=b0.mono d4
  replace b1:=b1.mono d4
  replace aY:=aY.mono (XU (XU (XU gb gc) gd) d4)
  replace cb:=cb.mono d4
  replace cc:=cc.mono d4
  replace b9:=b9.mono d4
  obtain⟨_,rfl,⟨_,_,rfl,⟨et,e9,rfl,w8⟩,⟨_,_,rfl,⟨eu,fa,rfl,w9⟩,⟨ev,fb,rfl,xa⟩⟩⟩⟩:=qb
  refine⟨.one (.agg (Wq cJ et e9 eu fa ev fb)),rfl,fun zn (ss:Kn 199 [(f,0),(g,0),(k,0)] ((tA 40 (Wq cJ et e9 eu fa ev fb))::(tA 39 (OL aw a az ax a0 ay a1))::(tI 11 bZ.2)::(tP 10 2 0)::(DL stop aV aE words aF)) zn)=>hK _ _ ?_⟩
  refine wl fun K hK=>?_
  refine wS 50 3 (Wq cJ et e9 eu fa ev fb) ss wd fun ew zo aen (st:Kn 199 [(f,0),(g,0),(k,0)] ((tS 41 ew 1 1)::(tA 40 (Wq cJ et e9 eu fa ev fb))::(tA 39 (OL aw a az ax a0 ay a1))::(tI 11 bZ.2)::(tP 10 2 0)::(DL stop aV aE words aF)) zo) fm=>?_
  have ny:Ag gx ([cJ]:List An) ([.slice et cJ.lD.length e9,.slice eu cJ.lE.length fa,.slice ev cJ.lC.length fb]:Wx):=⟨_,_,rfl,((Ab (Ad w8) (Ab (Ad w9) (Ad xa))):rep gx (cJ:An) _),rfl⟩
  refine hK _ _ ?_
  refine Rk 3 1 ((tS 12 ew 1 1)::(tI 11 bZ.2)::(tP 10 2 0)::(DL stop aV aE words aF)) st fm fun abt su=>?_
  refine wf (XT (XT (Aa (Rk 0 2 ((tB 43 (bZ.2 == 0))::(tS 12 ew 1 1)::(tI 11 bZ.2)::(tP 10 2 0)::(DL stop aV aE words aF)) su fm fun abu lk=>?_))))
  refine wf ?_
  obtain⟨pz,p2,H⟩:=VS (G:=De n Q bZ cJ) H
  refine A0 (fun a' w'=>∃ (fu:List An)(g3:Ww)(hw:Nat)(kh:Wx)(m9:Array Value)(gy:Ae),a' = ⟨m9,[]⟩∧Kn 199 [(f,0),(g,0),(k,0)] ((tS 12 g3 fu.length hw)::(DL stop aV aE words aF)) m9∧Ah ⟨w,h,A6⟩ gy [(f,0),(g,0),(k,0)] [⟨UB s r_ y u z x aa,some 28⟩,⟨OL aw a az ax a0 ay a1,some 32⟩,⟨Nx ai bZ am aj an ak al,some 50⟩] [⟨g3,fu.length,hw,50,3,kh,0⟩] w'∧Ae.le gx gy∧Ag gy fu kh∧pz fu) ?_ ?_
  ·
   unfold De at H
   refine wC ((bZ.2 == 0)) lk (fun la=>?_) (fun la=>?_)
   ·
    rw [la,XW] at H
    refine Aa (Rk 0 2 ((tA 45 (Nx ai bZ am aj an ak al))::(tS 44 ew 1 1)::(DL stop aV aE words aF)) lk fm fun abv sv=>?_)
    refine wl fun K hK=>?_
    refine wS 50 3 (Nx ai bZ am aj an ak al) sv fm fun nn zp aeo (sw:Kn 199 [(f,0),(g,0),(k,0)] ((tS 46 nn 1 1)::(tA 45 (Nx ai bZ am aj an ak al))::(tS 44 ew 1 1)::(DL stop aV aE words aF)) zp) o0=>?_
    have lj:Ag gx ([bZ.1]:List An) ([.slice ai bZ.1.lD.length am,.slice aj bZ.1.lE.length an,.slice ak bZ.1.lC.length al]:Wx):=⟨_,_,rfl,((Ab (Ad cb) (Ab (Ad cc) (Ad b9))):rep gx (bZ.1:An) _),rfl⟩
    refine hK _ _ ?_
    obtain⟨dZ,kQ,H⟩:=H
    obtain⟨m7,v2⟩:=Bb kQ
    refine wl fun K hK=>?_
    refine AD 0 72 1 _ (dZ.length) _ ([.slice ai bZ.1.lD.length am,.slice aj bZ.1.lE.length an,.slice ak bZ.1.lC.length al]:Wx) sw o0 rfl rfl (by decide) rfl (by rfl) (by kernel_rfl) (by rfl) (by rfl) (Ag.len lj) (o0.rowCell (i:=1) rfl) lj.one (by rw [m7]; simp <;> omega) (by rw [m7]; exact v2) (by decide) fun kl kx p1 zq aep r9 (sx:Kn 199 [(f,0),(g,0),(k,0)] ((tS 47 kl dZ.length kx)::(tS 46 nn 1 1)::(tA 45 (Nx ai bZ am aj an ak al))::(tS 44 ew 1 1)::(DL stop aV aE words aF)) zq) o1=>?_
    have ry:Ag gx dZ (([.slice et cJ.lD.length e9,.slice eu cJ.lE.length fa,.slice ev cJ.lC.length fb]:Wx)++([.slice ai bZ.1.lD.length am,.slice aj bZ.1.lE.length an,.slice ak bZ.1.lC.length al]:Wx)):=by rw [m7]; exact Ag.append ny lj
    obtain rfl:p1=0:=Nat.le_zero.1 r9
    refine hK _ _ ?_
    refine Rk 4 1 ((tS 12 kl dZ.length kx)::(DL stop aV aE words aF)) sx o1 fun abw sy=>?_
    refine wf ?_
    exact XY dZ ⟨kl,kx,([.slice et cJ.lD.length e9,.slice eu cJ.lE.length fa,.slice ev cJ.lC.length fb]:Wx)++([.slice ai bZ.1.lD.length am,.slice aj bZ.1.lE.length an,.slice ak bZ.1.lC.length al]:Wx),_,_,rfl,sy.kp,o1.cutRw 1,Ae.le_refl _,ry,H⟩
   ·
    rw [la,XV] at H
    refine XT (Aa (Rk 0 2 ((tB 49 (bZ.2 != 9))::(tS 12 ew 1 1)::(DL stop aV aE words aF)) lk fm fun abx ll=>?_))
    refine wf (wC ((bZ.2 != 9)) ll (fun lb=>?_) (fun lb=>?_))
    ·
     rw [lb,XW] at H
     refine XT (Aa (Rk 0 1 [tB 8 false] ll fm fun aby sz=>?_))
     refine wf (wp_ret ?_)
     exact rt (.one (.c (.bool false))) sz fm ⟨_,H,rfl⟩
    ·
     rw [lb,XV] at H
     refine wp_skip ?_
     exact XY ([cJ]:List An) ⟨ew,1,([.slice et cJ.lD.length e9,.slice eu cJ.lE.length fa,.slice ev cJ.lC.length fb]:Wx),_,_,rfl,ll.kp,fm,Ae.le_refl _,ny,H⟩
  ·
   rintro _ aeq ⟨fu,g3,hw,kh,m9,gy,rfl,s0,o2,d5,rx,H⟩
   rw [p2] at H
   replace a2:=a2.mono d5
   replace a3:=a3.mono d5
   replace a4:=a4.mono d5
   replace bz:=bz.mono d5
   replace b0:=b0.mono d5
   replace b1:=b1.mono d5
   replace aY:=aY.mono d5
   replace cb:=cb.mono d5
   replace cc:=cc.mono d5
   replace b9:=b9.mono d5
   refine XT (XT (Aa (Rk 0 1 ((tI 13 0)::(tS 12 g3 fu.length hw)::(DL stop aV aE words aF)) s0 o2 fun abz s1=>?_)))
   refine wf ?_
   obtain⟨nl,p3,H⟩:=VS (G:=BU n r_ words stop Q aV fu 0) H
   refine A0 (fun a' w'=>∃ (kg:List An)(np:Ww)(ns:Nat)(nk:Wx)(nt:Nat)(na:Array Value)(jx:Ae),a' = ⟨na,[]⟩∧Kn 199 [(f,0),(g,0),(k,0)] [] na∧Ah ⟨w,h,A6⟩ jx [(f,0),(g,0),(k,0)] [⟨UB s r_ y u z x aa,some 28⟩,⟨OL aw a az ax a0 ay a1,some 32⟩,⟨Nx ai bZ am aj an ak al,some 50⟩] [⟨np,kg.length,ns,50,3,nk,nt⟩] w'∧Ae.le gy jx∧Ag jx kg nk∧nl kg) ?_ ?_
   ·
    refine wp_block ?_
    refine Au (fun y9 a' w'=>∃ (aC:List An)(aB:Int)(d:Ww)(e:Nat)(b7:Wx)(k4:Nat)(nb:Array Value)(jy:Ae),a' = ⟨nb,[]⟩∧Kn 199 [(f,0),(g,0),(k,0)] ((tI 13 aB)::(tS 12 d aC.length e)::(DL stop aV aE words aF)) nb∧Ah ⟨w,h,A6⟩ jy [(f,0),(g,0),(k,0)] [⟨UB s r_ y u z x aa,some 28⟩,⟨OL aw a az ax a0 ay a1,some 32⟩,⟨Nx ai bZ am aj an ak al,some 50⟩] [⟨d,aC.length,e,50,3,b7,k4⟩] w'∧Ae.le gy jy∧Ag jy aC b7∧BU y9 r_ words stop Q aV aC aB nl) n ?_ ?_
    ·
     exact XY fu ⟨0,g3,hw,kh,0,_,_,rfl,s1.kp,o2,Ae.le_refl _,rx,H⟩
    ·
     rintro bj _ aa1 ⟨aC,aB,d,e,b7,k4,nb,jy,rfl,s2,gf,dc,b8,bb⟩
     obtain _ | bj:=bj
     ·
      rw [BU] at bb; exact bb.elim
     rw [BU] at bb
     replace a2:=a2.mono dc
     replace a3:=a3.mono dc
     replace a4:=a4.mono dc
     replace bz:=bz.mono dc
     replace b0:=b0.mono dc
     replace b1:=b1.mono dc
     replace aY:=aY.mono dc
     replace cb:=cb.mono dc
     replace cc:=cc.mono dc
     replace b9:=b9.mono dc
     refine XT (XT (Aa (Rk 0 4 ((tB 53 (decide (aB<((aC.length:Nat):Int))))::(tI 13 aB)::(tS 12 d aC.length e)::(DL stop aV aE words aF)) s2 gf fun ab0 lm=>?_)))
     refine wf (wC (decide (aB<((aC.length:Nat):Int))) lm (fun lc=>?_) (fun lc=>?_))
     ·
      rw [lc,XW] at bb
      refine wp_skip (XT (wp_block (XT (Am (by kernel_rfl) ?_))))
      replace gf:=gf.drew
      refine Ao [] [(f,0),(g,0),(k,0)] [⟨UB s r_ y u z x aa,some 28⟩,⟨OL aw a az ax a0 ay a1,some 32⟩,⟨Nx ai bZ am aj an ak al,some 50⟩] ?_
      refine Dr [0,2,3] [3,2,0] ((tI 60 aB)::(tS 59 d aC.length e)::(tA 57 (UB s r_ y u z x aa))::(tI 13 aB)::(tS 12 d aC.length e)::(DL stop aV aE words aF)) lm gf fun ab1 s3=>?_
      obtain⟨k6,dd,yo,j7⟩:=gf.settle (i:=0) rfl
      replace a2:=a2.mono dd
      replace a3:=a3.mono dd
      replace a4:=a4.mono dd
      replace b8:=b8.mono dd
      replace j7:Ah ⟨w,h,A6⟩ k6 [(f,0),(g,0),(k,0)] [⟨UB s r_ y u z x aa,some 28⟩,⟨OL aw a az ax a0 ay a1,some 32⟩,⟨Nx ai bZ am aj an ak al,some 50⟩] (Iq d aC e b7) (World.drew aa1):=j7
      have b6:A4 k6 d e aC:=⟨_,b8,yo,gf.rowCap (i:=0) rfl⟩
      obtain⟨cF,ge,bb⟩:=bb
      obtain⟨wh,ws,yz⟩:=Ai ge
      obtain⟨p,q,aa2,rl,yp,rz⟩:=b6.get (by decide) yz
      obtain⟨_,_,rfl,⟨bc,bf,rfl,ci⟩,⟨_,_,rfl,⟨bd,bg,rfl,cj⟩,⟨be,bh,rfl,ck⟩⟩⟩:=yp
      have lx:=j7.addPlc (b:=p) (o:=q+Wv aB*3) (cs:=(OL bc cF bf bd bg be bh)) (fun j c hj=>rz j _ (Ak hj)) rfl (by kernel_rfl) (by kernel_rfl)
      refine Az 4 (aB) (OL bc cF bf bd bg be bh) (fun _ _ _ _ _ h=>h) rfl rfl (rfl) rfl (by decide) (by kernel_rfl) (by kernel_rfl) s3 j7.plOk (by rfl) (by rfl) (by rfl) rl (by rfl) wh ws (by kernel_rfl) fun zs (s5:Kn 199 (FQ f g k p q aB) ((tP 61 3 0)::(tI 60 aB)::(tS 59 d aC.length e)::(tA 57 (UB s r_ y u z x aa))::(tI 13 aB)::(tS 12 d aC.length e)::(DL stop aV aE words aF)) zs)=>?_
      refine Dr [5] [5,4,3,2,0] ((tA 62 (OL bc cF bf bd bg be bh))::(tA 57 (UB s r_ y u z x aa))::(tI 13 aB)::(tS 12 d aC.length e)::(DL stop aV aE words aF)) s5 lx fun ab2 s6=>?_
      obtain⟨dM,jB,bb⟩:=bb
      refine Dl 1 fun K hK=>?_
      refine wc [.agg (UB s r_ y u z x aa)] s6 lx (Fa bj lx.has r_ ((Ab (Ad a2) (Ab (Ab Ac Ac) (Ab (Ad a3) (Ab (Ad a4) (Ab Ac (Ab Ac (Ab Ac Ac))))))):rep k6 r_ _) jB) fun adm q5 aes qc cp ly=>?_
      replace ci:=ci.mono cp
      replace cj:=cj.mono cp
      replace ck:=ck.mono cp
      obtain⟨_,rfl,⟨_,_,rfl,⟨ex,fc,rfl,mj⟩,⟨_,_,rfl,⟨_,_,rfl,rfl,rfl⟩,⟨_,_,rfl,⟨ey,fd,rfl,mk⟩,⟨_,_,rfl,⟨ez,fe,rfl,ml⟩,⟨_,_,rfl,rfl,⟨_,_,rfl,rfl,⟨_,_,rfl,rfl,rfl⟩⟩⟩⟩⟩⟩⟩⟩:=qc
      refine⟨.one (.agg (UB ex dM fc ey fd ez fe)),rfl,fun zu (s7:Kn 199 (FQ f g k p q aB) ((tA 58 (UB ex dM fc ey fd ez fe))::(tA 62 (OL bc cF bf bd bg be bh))::(tA 57 (UB s r_ y u z x aa))::(tI 13 aB)::(tS 12 d aC.length e)::(DL stop aV aE words aF)) zu)=>hK _ _ ly.plOk ?_⟩
      obtain⟨dC,gW,bb⟩:=bb
      refine Dl 6 fun K hK=>?_
      refine wc [.agg (OL bc cF bf bd bg be bh)] s7 ly (G4 bj ly.has cF ((Ab (Ad ci) (Ab (Ad cj) (Ad ck))):rep q5 cF _) gW) fun adn q6 aeu qd cf lz=>?_
      obtain⟨_,rfl,⟨_,_,rfl,⟨fv,f2,rfl,xb⟩,⟨_,_,rfl,⟨fw,f3,rfl,xc⟩,⟨fx,f4,rfl,xd⟩⟩⟩⟩:=qd
      refine⟨.one (.agg (OL fv dC f2 fw f3 fx f4)),rfl,fun zv (s9:Kn 199 (FQ f g k p q aB) ((tA 63 (OL fv dC f2 fw f3 fx f4))::(tA 58 (UB ex dM fc ey fd ez fe))::(tA 62 (OL bc cF bf bd bg be bh))::(tA 57 (UB s r_ y u z x aa))::(tI 13 aB)::(tS 12 d aC.length e)::(DL stop aV aE words aF)) zv)=>hK _ _ lz.plOk ?_⟩
      obtain⟨dV,jN,bb⟩:=bb
      refine Dl 7 fun K hK=>?_
      refine wc [.agg (OL fv dC f2 fw f3 fx f4)] s9 lz (F3 bj lz.has dC ((Ab (Ad xb) (Ab (Ad xc) (Ad xd))):rep q6 dC _) jN) fun ado nu aev qe cg l0=>?_
      replace mj:=mj.mono (XU cf cg)
      replace mk:=mk.mono (XU cf cg)
      replace ml:=ml.mono (XU cf cg)
      obtain⟨_,rfl,⟨_,_,rfl,⟨iz,ji,rfl,xe⟩,⟨_,_,rfl,⟨i0,jj,rfl,xf⟩,⟨i1,jk,rfl,xg⟩⟩⟩⟩:=qe
      refine⟨.one (.agg (Wq dV iz ji i0 jj i1 jk)),rfl,fun zw (ta:Kn 199 (FQ f g k p q aB) ((tA 64 (Wq dV iz ji i0 jj i1 jk))::(tA 63 (OL fv dC f2 fw f3 fx f4))::(tA 58 (UB ex dM fc ey fd ez fe))::(tA 62 (OL bc cF bf bd bg be bh))::(tA 57 (UB s r_ y u z x aa))::(tI 13 aB)::(tS 12 d aC.length e)::(DL stop aV aE words aF)) zw)=>hK _ _ l0.plOk ?_⟩
      obtain⟨bC,kL,bb⟩:=bb
      refine Dl 8 fun K hK=>?_
      refine wc [.agg (UB ex dM fc ey fd ez fe),.agg (Wq dV iz ji i0 jj i1 jk)] ta l0 (Ib bj l0.has dM ((Ab (Ad mj) (Ab (Ab Ac Ac) (Ab (Ad mk) (Ab (Ad ml) (Ab Ac (Ab Ac (Ab Ac Ac))))))):rep nu dM _) dV ((Ab (Ad xe) (Ab (Ad xf) (Ad xg))):rep nu dV _) kL) fun adp q7 aew qf cq gg=>?_
      replace a2:=a2.mono (XU (XU (XU cp cf) cg) cq)
      replace a3:=a3.mono (XU (XU (XU cp cf) cg) cq)
      replace a4:=a4.mono (XU (XU (XU cp cf) cg) cq)
      replace b6:=b6.mono (XU (XU (XU cp cf) cg) cq)
      obtain⟨_,_,rfl,⟨l,m,rfl,ca⟩,rfl⟩:=qf
      refine⟨.tup [.c (Wu l bC.1.length m),.c (Ws bC.2)],rfl,fun zx (tc:Kn 199 (FQ f g k p q aB) ((65,.tup [.c (Wu l bC.1.length m),.c (Ws bC.2)])::(tA 64 (Wq dV iz ji i0 jj i1 jk))::(tA 63 (OL fv dC f2 fw f3 fx f4))::(tA 58 (UB ex dM fc ey fd ez fe))::(tA 62 (OL bc cF bf bd bg be bh))::(tA 57 (UB s r_ y u z x aa))::(tI 13 aB)::(tS 12 d aC.length e)::(DL stop aV aE words aF)) zx)=>hK _ _ gg.plOk ?_⟩
      refine Dr [9,10,11,12,13] [13,12,11,10,9,8,7,6,1,5,4,3,2,0] ((tI 15 bC.2)::(BN l bC m aB d aC e stop aV aE words aF)) tc gg fun ab4 td=>?_
      refine A2 (by kernel_rfl) (XT (Am (by kernel_rfl) ?_))
      replace gg:=gg.drew
      refine Ao [] (FQ f g k p q aB) [⟨UB s r_ y u z x aa,some 28⟩,⟨OL aw a az ax a0 ay a1,some 32⟩,⟨Nx ai bZ am aj an ak al,some 50⟩,⟨OL bc cF bf bd bg be bh,none⟩] ?_
      refine Dr [0,2,3] [3,2,0] ((tI 72 aB)::(tS 71 d aC.length e)::(tA 69 (UB s r_ y u z x aa))::(tI 15 bC.2)::(BN l bC m aB d aC e stop aV aE words aF)) td gg fun ab5 te=>?_
      obtain⟨dP,ex73,bb⟩:=bb
      obtain⟨wi,wt,y0⟩:=Ai ex73
      obtain⟨ab,ac,aa3,rm,yq,r0⟩:=b6.get (by decide) y0
      obtain⟨_,_,rfl,⟨a5,a8,rfl,cl⟩,⟨_,_,rfl,⟨a6,a9,rfl,cm⟩,⟨a7,ba,rfl,cn⟩⟩⟩:=yq
      have l1:=gg.addPlc (b:=ab) (o:=ac+Wv aB*3) (cs:=(OL a5 dP a8 a6 a9 a7 ba)) (fun j c hj=>r0 j _ (Ak hj)) rfl (by kernel_rfl) (by kernel_rfl)
      refine Az 4 (aB) (OL a5 dP a8 a6 a9 a7 ba) (fun _ _ _ _ _ h=>h) rfl rfl (rfl) rfl (by decide) (by kernel_rfl) (by kernel_rfl) te gg.plOk (by rfl) (by rfl) (by rfl) rm (by rfl) wi wt (by kernel_rfl) fun zy (tg:Kn 199 (RR f g k p q aB ab ac) ((tP 73 4 0)::(tI 72 aB)::(tS 71 d aC.length e)::(tA 69 (UB s r_ y u z x aa))::(tI 15 bC.2)::(BN l bC m aB d aC e stop aV aE words aF)) zy)=>?_
      refine Dr [5,8,9] [9,8,5,4,3,2,0] ((tS 78 aE words.length aF)::(tA 77 (UB s r_ y u z x aa))::(tA 74 (OL a5 dP a8 a6 a9 a7 ba))::(tA 69 (UB s r_ y u z x aa))::(tI 15 bC.2)::(BN l bC m aB d aC e stop aV aE words aF)) tg l1 fun ab7 th=>?_
      obtain⟨fE,iX,bb⟩:=bb
      refine Dl 1 fun K hK=>?_
      refine wc [.agg (UB s r_ y u z x aa)] th l1 (Fa bj l1.has r_ ((Ab (Ad a2) (Ab (Ab Ac Ac) (Ab (Ad a3) (Ab (Ad a4) (Ab Ac (Ab Ac (Ab Ac Ac))))))):rep q7 r_ _) iX) fun adr q8 aex qg cd l2=>?_
      replace cl:=cl.mono cd
      replace cm:=cm.mono cd
      replace cn:=cn.mono cd
      obtain⟨_,rfl,⟨_,_,rfl,⟨dl,dx,rfl,mm⟩,⟨_,_,rfl,⟨_,_,rfl,rfl,rfl⟩,⟨_,_,rfl,⟨dm,dy,rfl,mn⟩,⟨_,_,rfl,⟨dp,dz,rfl,mo⟩,⟨_,_,rfl,rfl,⟨_,_,rfl,rfl,⟨_,_,rfl,rfl,rfl⟩⟩⟩⟩⟩⟩⟩⟩:=qg
      refine⟨.one (.agg (UB dl fE dx dm dy dp dz)),rfl,fun zz (ti:Kn 199 (RR f g k p q aB ab ac) ((tA 70 (UB dl fE dx dm dy dp dz))::(tS 78 aE words.length aF)::(tA 77 (UB s r_ y u z x aa))::(tA 74 (OL a5 dP a8 a6 a9 a7 ba))::(tA 69 (UB s r_ y u z x aa))::(tI 15 bC.2)::(BN l bC m aB d aC e stop aV aE words aF)) zz)=>hK _ _ l2.plOk ?_⟩
      obtain⟨dH,gV,bb⟩:=bb
      refine Dl 6 fun K hK=>?_
      refine wc [.agg (OL a5 dP a8 a6 a9 a7 ba)] ti l2 (G4 bj l2.has dP ((Ab (Ad cl) (Ab (Ad cm) (Ad cn))):rep q8 dP _) gV) fun ads ra aez qh b3 l3=>?_
      obtain⟨_,rfl,⟨_,_,rfl,⟨d9,eg,rfl,xh⟩,⟨_,_,rfl,⟨ea,eh,rfl,xi⟩,⟨eb,ei,rfl,xj⟩⟩⟩⟩:=qh
      refine⟨.one (.agg (OL d9 dH eg ea eh eb ei)),rfl,fun z0 (tj:Kn 199 (RR f g k p q aB ab ac) ((tA 75 (OL d9 dH eg ea eh eb ei))::(tA 70 (UB dl fE dx dm dy dp dz))::(tS 78 aE words.length aF)::(tA 77 (UB s r_ y u z x aa))::(tA 74 (OL a5 dP a8 a6 a9 a7 ba))::(tA 69 (UB s r_ y u z x aa))::(tI 15 bC.2)::(BN l bC m aB d aC e stop aV aE words aF)) z0)=>hK _ _ l3.plOk ?_⟩
      obtain⟨fF,ex76,bb⟩:=bb
      refine Dl 7 fun K hK=>?_
      refine wc [.agg (OL d9 dH eg ea eh eb ei)] tj l3 (F3 bj l3.has dH ((Ab (Ad xh) (Ab (Ad xi) (Ad xj))):rep ra dH _) ex76) fun adt rb ae0 qj b4 l4=>?_
      replace a2:=a2.mono (XU (XU cd b3) b4)
      replace a3:=a3.mono (XU (XU cd b3) b4)
      replace a4:=a4.mono (XU (XU cd b3) b4)
      replace aY:=aY.mono (XU (XU (XU (XU (XU (XU (XU dd cp) cf) cg) cq) cd) b3) b4)
      obtain⟨_,rfl,⟨_,_,rfl,⟨e0,ff,rfl,mp⟩,⟨_,_,rfl,⟨e1,fg,rfl,mq⟩,⟨e2,fh,rfl,mr⟩⟩⟩⟩:=qj
      refine⟨.one (.agg (OL e0 fF ff e1 fg e2 fh)),rfl,fun z1 (tk:Kn 199 (RR f g k p q aB ab ac) ((tA 76 (OL e0 fF ff e1 fg e2 fh))::(tA 75 (OL d9 dH eg ea eh eb ei))::(tA 70 (UB dl fE dx dm dy dp dz))::(tS 78 aE words.length aF)::(tA 77 (UB s r_ y u z x aa))::(tA 74 (OL a5 dP a8 a6 a9 a7 ba))::(tA 69 (UB s r_ y u z x aa))::(tI 15 bC.2)::(BN l bC m aB d aC e stop aV aE words aF)) z1)=>hK _ _ l4.plOk ?_⟩
      obtain⟨x79,ex79,bb⟩:=bb
      refine Dl 10 fun K hK=>?_
      refine wc [.agg (UB s r_ y u z x aa),.c (Wu aE words.length aF)] tk l4 (P0 bj l4.has r_ ((Ab (Ad a2) (Ab (Ab Ac Ac) (Ab (Ad a3) (Ab (Ad a4) (Ab Ac (Ab Ac (Ab Ac Ac))))))):rep rb r_ _) words aY ex79) fun adu rc ae1 qk bw l5=>?_
      obtain⟨_,rfl,⟨_,_,rfl,⟨g4,hx,rfl,xk⟩,⟨_,_,rfl,⟨g5,hy,rfl,xl⟩,⟨g6,hz,rfl,xm⟩⟩⟩⟩:=qk
      refine⟨.one (.agg (Wr x79 g4 hx g5 hy g6 hz)),rfl,fun z3 (tn:Kn 199 (RR f g k p q aB ab ac) ((tA 79 (Wr x79 g4 hx g5 hy g6 hz))::(tA 76 (OL e0 fF ff e1 fg e2 fh))::(tA 75 (OL d9 dH eg ea eh eb ei))::(tA 70 (UB dl fE dx dm dy dp dz))::(tS 78 aE words.length aF)::(tA 77 (UB s r_ y u z x aa))::(tA 74 (OL a5 dP a8 a6 a9 a7 ba))::(tA 69 (UB s r_ y u z x aa))::(tI 15 bC.2)::(BN l bC m aB d aC e stop aV aE words aF)) z3)=>hK _ _ l5.plOk ?_⟩
      obtain⟨fN,ex80,bb⟩:=bb
      refine Dl 11 fun K hK=>?_
      refine wc [.agg (Wr x79 g4 hx g5 hy g6 hz)] tn l5 (LP bj l5.has x79 ((Ab (Ad xk) (Ab (Ad xl) (Ad xm))):rep rc x79 _) ex80) fun adv k7 ae2 ql bx l6=>?_
      replace mm:=mm.mono (XU (XU (XU b3 b4) bw) bx)
      replace mn:=mn.mono (XU (XU (XU b3 b4) bw) bx)
      replace mo:=mo.mono (XU (XU (XU b3 b4) bw) bx)
      replace mp:=mp.mono (XU bw bx)
      replace mq:=mq.mono (XU bw bx)
      replace mr:=mr.mono (XU bw bx)
      obtain⟨_,rfl,⟨_,_,rfl,⟨i2,jl,rfl,xn⟩,⟨_,_,rfl,⟨i3,jm,rfl,xo⟩,⟨i4,jn,rfl,xp⟩⟩⟩⟩:=ql
      refine⟨.one (.agg (Wr fN i2 jl i3 jm i4 jn)),rfl,fun z4 (tp:Kn 199 (RR f g k p q aB ab ac) ((tA 80 (Wr fN i2 jl i3 jm i4 jn))::(tA 79 (Wr x79 g4 hx g5 hy g6 hz))::(tA 76 (OL e0 fF ff e1 fg e2 fh))::(tA 75 (OL d9 dH eg ea eh eb ei))::(tA 70 (UB dl fE dx dm dy dp dz))::(tS 78 aE words.length aF)::(tA 77 (UB s r_ y u z x aa))::(tA 74 (OL a5 dP a8 a6 a9 a7 ba))::(tA 69 (UB s r_ y u z x aa))::(tI 15 bC.2)::(BN l bC m aB d aC e stop aV aE words aF)) z4)=>hK _ _ l6.plOk ?_⟩
      obtain⟨bL,kN,bb⟩:=bb
      refine Dl 12 fun K hK=>?_
      refine wc [.agg (UB dl fE dx dm dy dp dz),.agg (OL e0 fF ff e1 fg e2 fh),.agg (Wr fN i2 jl i3 jm i4 jn)] tp l6 (Jb bj l6.has fE ((Ab (Ad mm) (Ab (Ab Ac Ac) (Ab (Ad mn) (Ab (Ad mo) (Ab Ac (Ab Ac (Ab Ac Ac))))))):rep k7 fE _) fF ((Ab (Ad mp) (Ab (Ad mq) (Ad mr))):rep k7 fF _) fN ((Ab (Ad xn) (Ab (Ad xo) (Ad xp))):rep k7 fN _) kN) fun adw f8 ae3 qm ce gh=>?_
      replace a2:=a2.mono (XU (XU bw bx) ce)
      replace a3:=a3.mono (XU (XU bw bx) ce)
      replace a4:=a4.mono (XU (XU bw bx) ce)
      replace bz:=bz.mono (XU (XU (XU (XU (XU (XU (XU (XU (XU (XU dd cp) cf) cg) cq) cd) b3) b4) bw) bx) ce)
      replace b0:=b0.mono (XU (XU (XU (XU (XU (XU (XU (XU (XU (XU dd cp) cf) cg) cq) cd) b3) b4) bw) bx) ce)
      replace b1:=b1.mono (XU (XU (XU (XU (XU (XU (XU (XU (XU (XU dd cp) cf) cg) cq) cd) b3) b4) bw) bx) ce)
      replace aY:=aY.mono (XU (XU bw bx) ce)
      replace cb:=cb.mono (XU (XU (XU (XU (XU (XU (XU (XU (XU (XU dd cp) cf) cg) cq) cd) b3) b4) bw) bx) ce)
      replace cc:=cc.mono (XU (XU (XU (XU (XU (XU (XU (XU (XU (XU dd cp) cf) cg) cq) cd) b3) b4) bw) bx) ce)
      replace b9:=b9.mono (XU (XU (XU (XU (XU (XU (XU (XU (XU (XU dd cp) cf) cg) cq) cd) b3) b4) bw) bx) ce)
      replace b6:=b6.mono (XU (XU (XU (XU (XU cd b3) b4) bw) bx) ce)
      replace ci:=ci.mono (XU (XU (XU (XU (XU (XU (XU (XU cf cg) cq) cd) b3) b4) bw) bx) ce)
      replace cj:=cj.mono (XU (XU (XU (XU (XU (XU (XU (XU cf cg) cq) cd) b3) b4) bw) bx) ce)
      replace ck:=ck.mono (XU (XU (XU (XU (XU (XU (XU (XU cf cg) cq) cd) b3) b4) bw) bx) ce)
      replace ca:=ca.mono (XU (XU (XU (XU (XU cd b3) b4) bw) bx) ce)
      replace cl:=cl.mono (XU (XU (XU (XU b3 b4) bw) bx) ce)
      replace cm:=cm.mono (XU (XU (XU (XU b3 b4) bw) bx) ce)
      replace cn:=cn.mono (XU (XU (XU (XU b3 b4) bw) bx) ce)
      replace b8:=b8.mono (XU (XU (XU (XU (XU (XU (XU (XU (XU cp cf) cg) cq) cd) b3) b4) bw) bx) ce)
      obtain⟨_,_,rfl,⟨af,ag,rfl,cr⟩,rfl⟩:=qm
      refine⟨.tup [.c (Wu af bL.1.length ag),.c (Ws bL.2)],rfl,fun z5 (tq:Kn 199 (RR f g k p q aB ab ac) ((81,.tup [.c (Wu af bL.1.length ag),.c (Ws bL.2)])::(tA 80 (Wr fN i2 jl i3 jm i4 jn))::(tA 79 (Wr x79 g4 hx g5 hy g6 hz))::(tA 76 (OL e0 fF ff e1 fg e2 fh))::(tA 75 (OL d9 dH eg ea eh eb ei))::(tA 70 (UB dl fE dx dm dy dp dz))::(tS 78 aE words.length aF)::(tA 77 (UB s r_ y u z x aa))::(tA 74 (OL a5 dP a8 a6 a9 a7 ba))::(tA 69 (UB s r_ y u z x aa))::(tI 15 bC.2)::(BN l bC m aB d aC e stop aV aE words aF)) z5)=>hK _ _ gh.plOk ?_⟩
      refine Dr [13,14,15,16,17] [17,16,15,14,13,12,11,10,7,6,1,9,8,5,4,3,2,0] ((tI 17 bL.2)::(tS 16 af bL.1.length ag)::(tI 15 bC.2)::(BN l bC m aB d aC e stop aV aE words aF)) tq gh fun ab9 tr=>?_
      refine A2 (by kernel_rfl) (XT (Am (by kernel_rfl) ?_))
      replace gh:=gh.drew
      refine Ao [] (RR f g k p q aB ab ac) [⟨UB s r_ y u z x aa,some 28⟩,⟨OL aw a az ax a0 ay a1,some 32⟩,⟨Nx ai bZ am aj an ak al,some 50⟩,⟨OL bc cF bf bd bg be bh,none⟩,⟨OL a5 dP a8 a6 a9 a7 ba,none⟩] ?_
      refine Dr [0,2,3] [3,2,0] ((tI 88 aB)::(tS 87 d aC.length e)::(tA 85 (UB s r_ y u z x aa))::(tI 17 bL.2)::(tS 16 af bL.1.length ag)::(tI 15 bC.2)::(BN l bC m aB d aC e stop aV aE words aF)) tr gh fun aca ts=>?_
      obtain⟨cX,ex89,bb⟩:=bb
      obtain⟨wj,wu,y1⟩:=Ai ex89
      obtain⟨ad,ae,aa4,rn,yr,r1⟩:=b6.get (by decide) y1
      obtain⟨_,_,rfl,⟨ao,ar,rfl,ct⟩,⟨_,_,rfl,⟨ap,au,rfl,cu⟩,⟨aq,av,rfl,cv⟩⟩⟩:=yr
      have o3:=gh.addPlc (b:=ad) (o:=ae+Wv aB*3) (cs:=(OL ao cX ar ap au aq av)) (fun j c hj=>r1 j _ (Ak hj)) rfl (by kernel_rfl) (by kernel_rfl)
      refine Az 4 (aB) (OL ao cX ar ap au aq av) (fun _ _ _ _ _ h=>h) rfl rfl (rfl) rfl (by decide) (by kernel_rfl) (by kernel_rfl) ts gh.plOk (by rfl) (by rfl) (by rfl) rn (by rfl) wj wu (by kernel_rfl) fun z6 (tt:Kn 199 [(f,0),(g,0),(k,0),(p,q+Wv aB*3),(ab,ac+Wv aB*3),(ad,ae+Wv aB*3)] ((tP 89 5 0)::(tI 88 aB)::(tS 87 d aC.length e)::(tA 85 (UB s r_ y u z x aa))::(tI 17 bL.2)::(tS 16 af bL.1.length ag)::(tI 15 bC.2)::(BN l bC m aB d aC e stop aV aE words aF)) z6)=>?_
      refine Dr [5,8] [8,5,4,3,2,0] (JV stop aV ao cX ar ap au aq av s r_ y u z x aa bL af ag bC l m aB d aC e aE words aF) tt o3 fun z7 tu=>?_
      obtain⟨dI,jM,bb⟩:=bb
      obtain⟨eA,ex91,bb⟩:=bb
      obtain⟨dX,iI,bb⟩:=bb
      obtain⟨p0,p5,bb⟩:=Vz (F:=Ey bj dI dX (Int.tmod (Wt stop.n) aV)) bb
      have n1:Kn 199 (Qi f g k p q aB ab ac ad ae) (JV stop aV ao cX ar ap au aq av s r_ y u z x aa bL af ag bC l m aB d aC e aE words aF) z7:=tu.push (0,0) (by kernel_rfl)
      have l7:=o3.addPlc (b:=0) (o:=0) (cs:=[]) (fun j c hj=>by simp at hj) rfl (by kernel_rfl) (by kernel_rfl)
      refine Cf (e':=(Qi f g k p q aB ab ac ad ae)) (pl':=[⟨UB s r_ y u z x aa,some 28⟩,⟨OL aw a az ax a0 ay a1,some 32⟩,⟨Nx ai bZ am aj an ak al,some 50⟩,⟨OL bc cF bf bd bg be bh,none⟩,⟨OL a5 dP a8 a6 a9 a7 ba,none⟩,⟨OL ao cX ar ap au aq av,none⟩,⟨[],none⟩]) (fun _ hp=>hp.pop (Nat.le_of_eq rfl) (by kernel_rfl)) ?_
      refine Bc (fun W=>∀ (cC:Ap×Int),∀ (ah:Nat),∀ (bn:Ww),∀ (bq:Nat),∀ (bo:Ww),∀ (br:Nat),∀ (bp:Ww),∀ (bs:Nat),∀ a' w',(∃ (nc:Array Value)(fl:Ae),a' = ⟨nc,[]⟩∧Kn 199 (DV f g k p q aB ab ac ad ae ah) ((tP 18 6 0)::(tI 96 cC.2)::(tA 95 (ER bn cC bq bo br bp bs))::(tI 17 bL.2)::(tS 16 af bL.1.length ag)::(tI 15 bC.2)::(BN l bC m aB d aC e stop aV aE words aF)) nc∧Ah ⟨w,h,A6⟩ fl (DV f g k p q aB ab ac ad ae ah) (FX s r_ y u z x aa aw a az ax a0 ay a1 ai bZ am aj an ak al bc cF bf bd bg be bh a5 dP a8 a6 a9 a7 ba ao cX ar ap au aq av) (Iq d aC e b7) w'∧Ae.le f8 fl∧p0 cC∧A4 fl bn bq cC.1.tm∧A4 fl bo br cC.1.lE∧A4 fl bp bs cC.1.lA)→W (DV f g k p q aB ab ac ad ae ah) (FX s r_ y u z x aa aw a az ax a0 ay a1 ai bZ am aj an ak al bc cF bf bd bg be bh a5 dP a8 a6 a9 a7 ba ao cX ar ap au aq av) [12,11,10,9,7,6,1,13,8,5,4,3,2,0] a' w') ?_ (fun pf=>?_)
      ·
       intro cC ah bn bq bo br bp bs
       rintro _ ae5 ⟨nc,fl,rfl,tv,wg,b2,bi,fn,fo,fp⟩
       replace a2:=a2.mono b2
       replace a3:=a3.mono b2
       replace a4:=a4.mono b2
       replace bz:=bz.mono b2
       replace b0:=b0.mono b2
       replace b1:=b1.mono b2
       replace aY:=aY.mono b2
       replace cb:=cb.mono b2
       replace cc:=cc.mono b2
       replace b9:=b9.mono b2
       replace b6:=b6.mono b2
       replace ci:=ci.mono b2
       replace cj:=cj.mono b2
       replace ck:=ck.mono b2
       replace ca:=ca.mono b2
       replace cl:=cl.mono b2
       replace cm:=cm.mono b2
       replace cn:=cn.mono b2
       replace cr:=cr.mono b2
       replace ct:=ct.mono b2
       replace cu:=cu.mono b2
       replace cv:=cv.mono b2
       replace b8:=b8.mono b2
       refine Cq 14 rfl (by kernel_rfl) (by decide) (rfl) (by kernel_rfl) fun K hK=>?_
       refine EZ 6 0 (.agg (ER bn cC bq bo br bp bs)) (ER bn cC bq bo br bp bs) tv wg fun ae6 tw cw=>hK _ _ ?_
       refine Ao [] (DV f g k p q aB ab ac ad ae ah) [⟨UB s r_ y u z x aa,some 28⟩,⟨OL aw a az ax a0 ay a1,some 32⟩,⟨Nx ai bZ am aj an ak al,some 50⟩,⟨OL bc cF bf bd bg be bh,none⟩,⟨OL a5 dP a8 a6 a9 a7 ba,none⟩,⟨OL ao cX ar ap au aq av,none⟩,⟨ER bn cC bq bo br bp bs,some 52⟩] ?_
       refine Dr [15] [15,14,12,11,10,9,7,6,1,13,8,5,4,3,2,0] ((tI 19 cC.2)::(tP 18 6 0)::(tI 17 bL.2)::(tS 16 af bL.1.length ag)::(tI 15 bC.2)::(BN l bC m aB d aC e stop aV aE words aF)) tw cw fun acb tx=>?_
       refine A2 (by kernel_rfl) ?_
       subst p5
       revert bi
       intro bi
       refine XT (XT ?_)
       obtain⟨pj,b5,bi⟩:=bi
       refine A0 (fun a' w'=>∃ (nd:Array Value)(ih:Ae),a' = ⟨nd,[]⟩∧Kn 199 (DV f g k p q aB ab ac ad ae ah) [tP 18 6 0,tS 16 af bL.1.length ag,tS 14 l bC.1.length m,tI 13 aB,tS 12 d aC.length e,tI 9 (Int.tmod (Wt stop.n) aV),tP 4 0 0,tS 2 aE words.length aF,tB 127 pj] nd∧Ah ⟨w,h,A6⟩ ih (DV f g k p q aB ab ac ad ae ah) [⟨UB s r_ y u z x aa,some 28⟩,⟨OL aw a az ax a0 ay a1,some 32⟩,⟨Nx ai bZ am aj an ak al,some 50⟩,⟨OL bc cF bf bd bg be bh,none⟩,⟨OL a5 dP a8 a6 a9 a7 ba,none⟩,⟨OL ao cX ar ap au aq av,none⟩,⟨ER bn cC bq bo br bp bs,some 52⟩] (Iq d aC e b7) w'∧Ae.le fl ih) ?_ ?_
       ·
        refine Am (by kernel_rfl) ?_
        replace cw:=cw.drew
        refine Ao [] (DV f g k p q aB ab ac ad ae ah) [⟨UB s r_ y u z x aa,some 28⟩,⟨OL aw a az ax a0 ay a1,some 32⟩,⟨Nx ai bZ am aj an ak al,some 50⟩,⟨OL bc cF bf bd bg be bh,none⟩,⟨OL a5 dP a8 a6 a9 a7 ba,none⟩,⟨OL ao cX ar ap au aq av,none⟩,⟨ER bn cC bq bo br bp bs,some 52⟩] ?_
        refine Dr [0,1,2] [2,1,0] ((tB 99 (bC.2 != 0))::(tI 19 cC.2)::(tP 18 6 0)::(tI 17 bL.2)::(tS 16 af bL.1.length ag)::(BN l bC m aB d aC e stop aV aE words aF)) tx cw fun pn n2=>?_
        rcases Xb ((bC.2 != 0)) with ii | ii
        ·
         rw [ii,XW] at b5
         have ty:Kn 199 (DV f g k p q aB ab ac ad ae ah) ((tB 99 true)::(tI 19 cC.2)::(tP 18 6 0)::(tI 17 bL.2)::(tS 16 af bL.1.length ag)::(BN l bC m aB d aC e stop aV aE words aF)) pn:=(n2.setB 99 true (by rfl) ii).kp
         refine Dr [3,4,5,6,7,8,9,10,11,12,13,14,15,16,17,18,19,20,21,22,23,24,25,26,27,28,29,30] (dn 30) ((tB 127 true)::(BM af bL ag l bC m aB d aC e stop aV aE words aF)) ty cw fun acc tz=>?_
         refine A2 (by kernel_rfl) ?_
         obtain rfl:=XZ b5
         exact XY _ ⟨_,rfl,tz.kp,cw,Ae.le_refl _⟩
        ·
         rw [ii,XV] at b5
         have t0:Kn 199 (DV f g k p q aB ab ac ad ae ah) ((tB 99 false)::(tI 19 cC.2)::(tP 18 6 0)::(tI 17 bL.2)::(tS 16 af bL.1.length ag)::(BN l bC m aB d aC e stop aV aE words aF)) pn:=(n2.setB 99 false (by rfl) ii).kp
         refine Dr [3,4,5,6] (dn 6) ((tB 103 (bL.2 != 0))::(tI 19 cC.2)::(BM af bL ag l bC m aB d aC e stop aV aE words aF)) t0 cw fun po n3=>?_
         rcases Xb ((bL.2 != 0)) with ij | ij
         ·
          rw [ij,XW] at b5
          have t1:Kn 199 (DV f g k p q aB ab ac ad ae ah) ((tB 103 true)::(tI 19 cC.2)::(BM af bL ag l bC m aB d aC e stop aV aE words aF)) po:=(n3.setB 103 true (by rfl) ij).kp
          refine Dr [7,8,9,10,11,12,13,14,15,16,17,18,19,20,21,22,23,24,25,26,27,28,29,30] (dn 30) ((tB 127 true)::(BM af bL ag l bC m aB d aC e stop aV aE words aF)) t1 cw fun acd t2=>?_
          refine A2 (by kernel_rfl) ?_
          obtain rfl:=XZ b5
          exact XY _ ⟨_,rfl,t2.kp,cw,Ae.le_refl _⟩
         ·
          rw [ij,XV] at b5
          have t3:Kn 199 (DV f g k p q aB ab ac ad ae ah) ((tB 103 false)::(tI 19 cC.2)::(BM af bL ag l bC m aB d aC e stop aV aE words aF)) po:=(n3.setB 103 false (by rfl) ij).kp
          refine Dr [7,8,9,10] (dn 10) ((tB 107 (cC.2 != 0))::(BM af bL ag l bC m aB d aC e stop aV aE words aF)) t3 cw fun pp n4=>?_
          rcases Xb ((cC.2 != 0)) with ik | ik
          ·
           rw [ik,XW] at b5
           have t4:Kn 199 (DV f g k p q aB ab ac ad ae ah) ((tB 107 true)::(BM af bL ag l bC m aB d aC e stop aV aE words aF)) pp:=(n4.setB 107 true (by rfl) ik).kp
           refine Dr [11,12,13,14,15,16,17,18,19,20,21,22,23,24,25,26,27,28,29,30] (dn 30) ((tB 127 true)::(BM af bL ag l bC m aB d aC e stop aV aE words aF)) t4 cw fun ace t5=>?_
           refine A2 (by kernel_rfl) ?_
           obtain rfl:=XZ b5
           exact XY _ ⟨_,rfl,t5.kp,cw,Ae.le_refl _⟩
          ·
           rw [ik,XV] at b5
           have t6:Kn 199 (DV f g k p q aB ab ac ad ae ah) ((tB 107 false)::(BM af bL ag l bC m aB d aC e stop aV aE words aF)) pp:=(n4.setB 107 false (by rfl) ik).kp
           refine Dr [11,12,13] (dn 13) ((tA 110 (UB s r_ y u z x aa))::(tI 109 ((bC.1.length:Nat):Int))::(tB 107 false)::(BM af bL ag l bC m aB d aC e stop aV aE words aF)) t6 cw fun acf n5=>?_
           obtain⟨jL,ex111,b5⟩:=Av b5
           refine EJ 14 rfl (by kernel_rfl) (by decide) (Aj n5 (by kernel_rfl)) fun K hK=>?_
           refine wc [.agg (UB s r_ y u z x aa)] n5 cw (GT bj cw.has r_ ((Ab (Ad a2) (Ab (Ab Ac Ac) (Ab (Ad a3) (Ab (Ad a4) (Ab Ac (Ab Ac (Ab Ac Ac))))))):rep fl r_ _) ex111) fun ady rd ae7 qo bm d7=>?_
           replace a2:=a2.mono bm
           replace a3:=a3.mono bm
           replace a4:=a4.mono bm
           replace bz:=bz.mono bm
           replace b0:=b0.mono bm
           replace b1:=b1.mono bm
           replace aY:=aY.mono bm
           replace cb:=cb.mono bm
           replace cc:=cc.mono bm
           replace b9:=b9.mono bm
           replace b6:=b6.mono bm
           replace ci:=ci.mono bm
           replace cj:=cj.mono bm
           replace ck:=ck.mono bm
           replace ca:=ca.mono bm
           replace cl:=cl.mono bm
           replace cm:=cm.mono bm
           replace cn:=cn.mono bm
           replace cr:=cr.mono bm
           replace ct:=ct.mono bm
           replace cu:=cu.mono bm
           replace cv:=cv.mono bm
           replace fn:=fn.mono bm
           replace fo:=fo.mono bm
           replace fp:=fp.mono bm
           replace b8:=b8.mono bm
           obtain rfl:=qo
           refine⟨.one (.c (Ws jL)),rfl,fun z9 (t8:Kn 199 (DV f g k p q aB ab ac ad ae ah) ((tI 111 jL)::(tA 110 (UB s r_ y u z x aa))::(tI 109 ((bC.1.length:Nat):Int))::(tB 107 false)::(BM af bL ag l bC m aB d aC e stop aV aE words aF)) z9)=>hK _ _ d7.plOk ?_⟩
           refine Dr [15,16,17] (dn 17) ((tB 114 (((bC.1.length:Nat):Int) != jL))::(BM af bL ag l bC m aB d aC e stop aV aE words aF)) t8 d7 fun pq n6=>?_
           rcases Xb ((((bC.1.length:Nat):Int) != jL)) with il | il
           ·
            rw [il,XW] at b5
            have t9:Kn 199 (DV f g k p q aB ab ac ad ae ah) ((tB 114 true)::(BM af bL ag l bC m aB d aC e stop aV aE words aF)) pq:=(n6.setB 114 true (by rfl) il).kp
            refine Dr [18,19,20,21,22,23,24,25,26,27,28,29,30] (dn 30) ((tB 127 true)::(BM af bL ag l bC m aB d aC e stop aV aE words aF)) t9 d7 fun ach ua=>?_
            refine A2 (by kernel_rfl) ?_
            obtain rfl:=XZ b5
            exact XY _ ⟨_,rfl,ua.kp,d7,bm⟩
           ·
            rw [il,XV] at b5
            have ub:Kn 199 (DV f g k p q aB ab ac ad ae ah) ((tB 114 false)::(BM af bL ag l bC m aB d aC e stop aV aE words aF)) pq:=(n6.setB 114 false (by rfl) il).kp
            refine Dr [18,19,20,21,22,23,24] (dn 24) ((tB 121 (((bL.1.length:Nat):Int) != ((bC.1.length:Nat):Int)))::(BM af bL ag l bC m aB d aC e stop aV aE words aF)) ub d7 fun pr n7=>?_
            rcases Xb ((((bL.1.length:Nat):Int) != ((bC.1.length:Nat):Int))) with im | im
            ·
             rw [im,XW] at b5
             have uc:Kn 199 (DV f g k p q aB ab ac ad ae ah) ((tB 121 true)::(BM af bL ag l bC m aB d aC e stop aV aE words aF)) pr:=(n7.setB 121 true (by rfl) im).kp
             refine Dr [25,26,27,28,29,30] (dn 30) ((tB 127 true)::(BM af bL ag l bC m aB d aC e stop aV aE words aF)) uc d7 fun aci ue=>?_
             refine A2 (by kernel_rfl) ?_
             obtain rfl:=XZ b5
             exact XY _ ⟨_,rfl,ue.kp,d7,bm⟩
            ·
             rw [im,XV] at b5
             have uf:Kn 199 (DV f g k p q aB ab ac ad ae ah) ((tB 121 false)::(BM af bL ag l bC m aB d aC e stop aV aE words aF)) pr:=(n7.setB 121 false (by rfl) im).kp
             refine Dr [25,26] (dn 26) ((tA 123 (ER bn cC bq bo br bp bs))::(tA 122 (UB s r_ y u z x aa))::(tB 121 false)::(BM af bL ag l bC m aB d aC e stop aV aE words aF)) uf d7 fun acj n8=>?_
             obtain⟨fH,kV,b5⟩:=Av b5
             refine EJ 27 rfl (by kernel_rfl) (by decide) (Aj n8 (by kernel_rfl)) fun K hK=>?_
             refine wc [.agg (ER bn cC bq bo br bp bs)] n8 d7 (Ng bj d7.has cC.1 ((Ab (Ad fn) (Ab (Ad fo) (Ad fp))):rep rd cC.1 _) kV) fun adz nv ae8 qp j0 l8=>?_
             replace a2:=a2.mono j0
             replace a3:=a3.mono j0
             replace a4:=a4.mono j0
             obtain⟨_,rfl,⟨_,_,rfl,⟨i5,jo,rfl,xq⟩,⟨_,_,rfl,⟨i6,jp,rfl,xr⟩,⟨i7,jq,rfl,xs⟩⟩⟩⟩:=qp
             refine⟨.one (.agg (Wr fH i5 jo i6 jp i7 jq)),rfl,fun aaa (n9:Kn 199 (DV f g k p q aB ab ac ad ae ah) ((tA 124 (Wr fH i5 jo i6 jp i7 jq))::(tA 123 (ER bn cC bq bo br bp bs))::(tA 122 (UB s r_ y u z x aa))::(tB 121 false)::(BM af bL ag l bC m aB d aC e stop aV aE words aF)) aaa)=>hK _ _ l8.plOk ?_⟩
             obtain⟨fS,kB,b5⟩:=Av b5
             refine EJ 28 rfl (by kernel_rfl) (by decide) (Aj n9 (by kernel_rfl)) fun K hK=>?_
             refine wc [.agg (UB s r_ y u z x aa),.agg (Wr fH i5 jo i6 jp i7 jq)] n9 l8 (RS bj l8.has r_ ((Ab (Ad a2) (Ab (Ab Ac Ac) (Ab (Ad a3) (Ab (Ad a4) (Ab Ac (Ab Ac (Ab Ac Ac))))))):rep nv r_ _) fH ((Ab (Ad xq) (Ab (Ad xr) (Ad xs))):rep nv fH _) kB) fun ad0 abf ae9 qq v5 l9=>?_
             obtain rfl:=qq
             refine⟨.one (.c (.bool fS)),rfl,fun aab (uh:Kn 199 (DV f g k p q aB ab ac ad ae ah) ((tB 125 fS)::(tA 124 (Wr fH i5 jo i6 jp i7 jq))::(tA 123 (ER bn cC bq bo br bp bs))::(tA 122 (UB s r_ y u z x aa))::(tB 121 false)::(BM af bL ag l bC m aB d aC e stop aV aE words aF)) aab)=>hK _ _ l9.plOk ?_⟩
             refine Dr [29,30] (dn 30) ((tB 127 (!fS))::(BM af bL ag l bC m aB d aC e stop aV aE words aF)) uh l9 fun acl ui=>?_
             refine A2 (by kernel_rfl) ?_
             obtain rfl:=XZ b5
             exact XY _ ⟨_,rfl,ui.kp,l9,XU bm (XU j0 v5)⟩
       ·
        rintro _ afa ⟨nd,ih,rfl,lp,j9,bu⟩
        replace a2:=a2.mono bu
        replace a3:=a3.mono bu
        replace a4:=a4.mono bu
        replace bz:=bz.mono bu
        replace b0:=b0.mono bu
        replace b1:=b1.mono bu
        replace aY:=aY.mono bu
        replace cb:=cb.mono bu
        replace cc:=cc.mono bu
        replace b9:=b9.mono bu
        replace b6:=b6.mono bu
        replace ci:=ci.mono bu
        replace cj:=cj.mono bu
        replace ck:=ck.mono bu
        replace ca:=ca.mono bu
        replace cl:=cl.mono bu
        replace cm:=cm.mono bu
        replace cn:=cn.mono bu
        replace cr:=cr.mono bu
        replace ct:=ct.mono bu
        replace cu:=cu.mono bu
        replace cv:=cv.mono bu
        replace fn:=fn.mono bu
        replace fo:=fo.mono bu
        replace fp:=fp.mono bu
        replace b8:=b8.mono bu
        refine wC (pj) lp (fun lf=>?_) (fun lf=>?_)
        ·
         rw [lf,XW] at bi
         refine XT (Aa (Rk 0 1 [tB 8 false] lp j9 fun acm uj=>?_))
         refine wf (wp_ret ?_)
         exact rt (.one (.c (.bool false))) uj j9 ⟨_,bi,rfl⟩
        ·
         rw [lf,XV] at bi
         refine wp_skip (XT (XT (Aa (Rk 0 1 ((tI 20 0)::(BM af bL ag l bC m aB d aC e stop aV aE words aF)) lp j9 fun acn uk=>?_))))
         refine wf ?_
         obtain⟨nm,p4,bi⟩:=VS (G:=B9 bj r_ Q aB bC bL 0) bi
         refine A0 (fun a' w'=>∃ (pm:Unit)(nf:Array Value)(jz:Ae),a' = ⟨nf,[]⟩∧Kn 199 (DV f g k p q aB ab ac ad ae ah) ((tP 18 6 0)::(BN l bC m aB d aC e stop aV aE words aF)) nf∧Ah ⟨w,h,A6⟩ jz (DV f g k p q aB ab ac ad ae ah) [⟨UB s r_ y u z x aa,some 28⟩,⟨OL aw a az ax a0 ay a1,some 32⟩,⟨Nx ai bZ am aj an ak al,some 50⟩,⟨OL bc cF bf bd bg be bh,none⟩,⟨OL a5 dP a8 a6 a9 a7 ba,none⟩,⟨OL ao cX ar ap au aq av,none⟩,⟨ER bn cC bq bo br bp bs,some 52⟩] (Iq d aC e b7) w'∧Ae.le ih jz∧nm pm) ?_ ?_
         ·
          refine wp_block ?_
          refine Au (fun za a' w'=>∃ (aH:Int)(ng:Array Value)(k8:Ae),a' = ⟨ng,[]⟩∧Kn 199 (DV f g k p q aB ab ac ad ae ah) ((tI 20 aH)::(BM af bL ag l bC m aB d aC e stop aV aE words aF)) ng∧Ah ⟨w,h,A6⟩ k8 (DV f g k p q aB ab ac ad ae ah) [⟨UB s r_ y u z x aa,some 28⟩,⟨OL aw a az ax a0 ay a1,some 32⟩,⟨Nx ai bZ am aj an ak al,some 50⟩,⟨OL bc cF bf bd bg be bh,none⟩,⟨OL a5 dP a8 a6 a9 a7 ba,none⟩,⟨OL ao cX ar ap au aq av,none⟩,⟨ER bn cC bq bo br bp bs,some 52⟩] (Iq d aC e b7) w'∧Ae.le ih k8∧B9 za r_ Q aB bC bL aH nm) bj ?_ ?_
          ·
           exact XY 0 ⟨_,_,rfl,uk.kp,j9,Ae.le_refl _,bi⟩
          ·
           rintro kf _ afb ⟨aH,ng,k8,rfl,ul,gi,iv,bt⟩
           obtain _ | kf:=kf
           ·
            rw [B9] at bt; exact bt.elim
           rw [B9] at bt
           replace ca:=ca.mono iv
           replace cr:=cr.mono iv
           refine XT (XT (Aa (Rk 0 4 ((tB 131 (decide (aH<((bC.1.length:Nat):Int))))::(tI 20 aH)::(BM af bL ag l bC m aB d aC e stop aV aE words aF)) ul gi fun aco lq=>?_)))
           refine wf (wC (decide (aH<((bC.1.length:Nat):Int))) lq (fun lg=>?_) (fun lg=>?_))
           ·
            rw [lg,XW] at bt
            refine wp_skip (XT (wp_block (XT (Am (by kernel_rfl) ?_))))
            replace gi:=gi.drew
            refine Ao [] (DV f g k p q aB ab ac ad ae ah) [⟨UB s r_ y u z x aa,some 28⟩,⟨OL aw a az ax a0 ay a1,some 32⟩,⟨Nx ai bZ am aj an ak al,some 50⟩,⟨OL bc cF bf bd bg be bh,none⟩,⟨OL a5 dP a8 a6 a9 a7 ba,none⟩,⟨OL ao cX ar ap au aq av,none⟩,⟨ER bn cC bq bo br bp bs,some 52⟩] ?_
            refine Dr [0,1] [1,0] ((tI 135 aH)::(tS 134 af bL.1.length ag)::(tI 20 aH)::(BM af bL ag l bC m aB d aC e stop aV aE words aF)) lq gi fun acp um=>?_
            obtain⟨iQ,ex136,bt⟩:=bt
            obtain⟨wk,wv,y2⟩:=Ai ex136
            obtain⟨c7,db,aa5,ro,ys,r2⟩:=cr.get (by decide) y2
            obtain rfl:=ys
            have gj:=gi.addPlc (b:=c7) (o:=db+Wv aH*1) (cs:=[Ws iQ]) (fun j c hj=>r2 j _ (Ak hj)) rfl (by kernel_rfl) (by kernel_rfl)
            refine Az 2 (aH) [Ws iQ] (fun _ _ _ _ _ h=>h) rfl rfl (rfl) rfl (by decide) (by kernel_rfl) (by kernel_rfl) um gi.plOk (by rfl) (by rfl) (by rfl) ro (by rfl) wk wv (by kernel_rfl) fun aac (un:Kn 199 [(f,0),(g,0),(k,0),(p,q+Wv aB*3),(ab,ac+Wv aB*3),(ad,ae+Wv aB*3),(ah,0),(c7,db+Wv aH*1)] ((tP 136 7 0)::(tI 135 aH)::(tS 134 af bL.1.length ag)::(tI 20 aH)::(BM af bL ag l bC m aB d aC e stop aV aE words aF)) aac)=>?_
            refine Dr [3,4,5] (dn 5) ((tB 139 (decide (iQ<0)))::(tI 20 aH)::(BM af bL ag l bC m aB d aC e stop aV aE words aF)) un gj fun ps oa=>?_
            rcases Xb (decide (iQ<0)) with io | io
            ·
             rw [io,XW] at bt
             have uo:Kn 199 [(f,0),(g,0),(k,0),(p,q+Wv aB*3),(ab,ac+Wv aB*3),(ad,ae+Wv aB*3),(ah,0),(c7,db+Wv aH*1)] ((tB 139 true)::(tI 20 aH)::(BM af bL ag l bC m aB d aC e stop aV aE words aF)) ps:=(oa.setB 139 true (by rfl) io).kp
             refine Dr [6,7,8,9,10,11,12,13,14,15,16,17,18,19,20,21,22,23,24,25,26,27,28] (dn 28) ((tB 162 true)::(tI 20 aH)::(BM af bL ag l bC m aB d aC e stop aV aE words aF)) uo gj fun acq ob=>?_
             refine A2 (by kernel_rfl) (wC true ob (fun hb=>?_) (fun hb=>?_))
             rotate_left
             ·
              cases hb
             refine XT (Aa (Rk 0 1 [tB 8 false] ob gj fun acr uq=>?_))
             refine wf (wp_ret ?_)
             exact rt (.one (.c (.bool false))) uq gj ⟨_,bt,rfl⟩
            ·
             rw [io,XV] at bt
             have ur:Kn 199 [(f,0),(g,0),(k,0),(p,q+Wv aB*3),(ab,ac+Wv aB*3),(ad,ae+Wv aB*3),(ah,0),(c7,db+Wv aH*1)] ((tB 139 false)::(tI 20 aH)::(BM af bL ag l bC m aB d aC e stop aV aE words aF)) ps:=(oa.setB 139 false (by rfl) io).kp
             refine Dr [6,7] (dn 7) ((tI 141 aH)::(tS 140 af bL.1.length ag)::(tB 139 false)::(tI 20 aH)::(BM af bL ag l bC m aB d aC e stop aV aE words aF)) ur gj fun acs oc=>?_
             obtain⟨gR,ex142,bt⟩:=bt
             obtain⟨wm,ww,y3⟩:=Ai ex142
             obtain⟨dt,d8,aa6,rp,yt,r3⟩:=cr.get (by decide) y3
             obtain rfl:=yt
             have ma:=gj.addPlc (b:=dt) (o:=d8+Wv aH*1) (cs:=[Ws gR]) (fun j c hj=>r3 j _ (Ak hj)) rfl (by kernel_rfl) (by kernel_rfl)
             refine Az 8 (aH) [Ws gR] (fun _ _ _ _ _ h=>h) rfl rfl (Aj oc (by kernel_rfl)) rfl (by decide) (by kernel_rfl) (by kernel_rfl) oc gj.plOk (by rfl) (by rfl) (by rfl) rp (by rfl) wm ww (by kernel_rfl) fun aae (ut:Kn 199 [(f,0),(g,0),(k,0),(p,q+Wv aB*3),(ab,ac+Wv aB*3),(ad,ae+Wv aB*3),(ah,0),(c7,db+Wv aH*1),(dt,d8+Wv aH*1)] ((tP 142 8 0)::(tI 141 aH)::(tS 140 af bL.1.length ag)::(tB 139 false)::(tI 20 aH)::(BM af bL ag l bC m aB d aC e stop aV aE words aF)) aae)=>?_
             refine Dr [9,10,11] (dn 11) ((tI 145 aH)::(tS 144 l bC.1.length m)::(tI 143 gR)::(tB 139 false)::(tI 20 aH)::(BM af bL ag l bC m aB d aC e stop aV aE words aF)) ut ma fun act od=>?_
             obtain⟨iR,ex146,bt⟩:=bt
             obtain⟨wn,wx,y4⟩:=Ai ex146
             obtain⟨ef,es,aa7,rq,yu,r4⟩:=ca.get (by decide) y4
             obtain rfl:=yu
             have dh:=ma.addPlc (b:=ef) (o:=es+Wv aH*1) (cs:=[Ws iR]) (fun j c hj=>r4 j _ (Ak hj)) rfl (by kernel_rfl) (by kernel_rfl)
             refine Az 12 (aH) [Ws iR] (fun _ _ _ _ _ h=>h) rfl rfl (Aj od (by kernel_rfl)) rfl (by decide) (by kernel_rfl) (by kernel_rfl) od ma.plOk (by rfl) (by rfl) (by rfl) rq (by rfl) wn wx (by kernel_rfl) fun aaf (uv:Kn 199 (Sd f g k p q aB ab ac ad ae ah c7 db aH dt d8 ef es) ((tP 146 9 0)::(tI 145 aH)::(tS 144 l bC.1.length m)::(tI 143 gR)::(tB 139 false)::(tI 20 aH)::(BM af bL ag l bC m aB d aC e stop aV aE words aF)) aaf)=>?_
             refine Dr [13,14,15,16] (dn 16) ((tB 150 (decide (gR>iR)))::(tI 20 aH)::(BM af bL ag l bC m aB d aC e stop aV aE words aF)) uv dh fun pt oe=>?_
             rcases Xb (decide (gR>iR)) with ip | ip
             ·
              rw [ip,XW] at bt
              have uw:Kn 199 (Sd f g k p q aB ab ac ad ae ah c7 db aH dt d8 ef es) ((tB 150 true)::(tI 20 aH)::(BM af bL ag l bC m aB d aC e stop aV aE words aF)) pt:=(oe.setB 150 true (by rfl) ip).kp
              refine Dr [17,18,19,20,21,22,23,24,25,26,27,28] (dn 28) ((tB 162 true)::(tI 20 aH)::(BM af bL ag l bC m aB d aC e stop aV aE words aF)) uw dh fun acu og=>?_
              refine A2 (by kernel_rfl) (wC true og (fun hb=>?_) (fun hb=>?_))
              rotate_left
              ·
               cases hb
              refine XT (Aa (Rk 0 1 [tB 8 false] og dh fun acv ux=>?_))
              refine wf (wp_ret ?_)
              exact rt (.one (.c (.bool false))) ux dh ⟨_,bt,rfl⟩
             ·
              rw [ip,XV] at bt
              have uy:Kn 199 (Sd f g k p q aB ab ac ad ae ah c7 db aH dt d8 ef es) ((tB 150 false)::(tI 20 aH)::(BM af bL ag l bC m aB d aC e stop aV aE words aF)) pt:=(oe.setB 150 false (by rfl) ip).kp
              refine Dr [17,18,19] (dn 19) ((tB 153 (aB == 1))::(tB 150 false)::(tI 20 aH)::(BM af bL ag l bC m aB d aC e stop aV aE words aF)) uy dh fun pu oh=>?_
              rcases Xb ((aB == 1)) with iq | iq
              ·
               rw [iq,XW] at bt
               have u0:Kn 199 (Sd f g k p q aB ab ac ad ae ah c7 db aH dt d8 ef es) ((tB 153 true)::(tB 150 false)::(tI 20 aH)::(BM af bL ag l bC m aB d aC e stop aV aE words aF)) pu:=(oh.setB 153 true (by rfl) iq).kp
               refine Dr [20,21] (dn 21) ((tI 155 aH)::(tS 154 l bC.1.length m)::(tB 153 true)::(tB 150 false)::(tI 20 aH)::(BM af bL ag l bC m aB d aC e stop aV aE words aF)) u0 dh fun acw oi=>?_
               obtain⟨iS,ex156,bt⟩:=bt
               obtain⟨wo,wy,y5⟩:=Ai ex156
               obtain⟨nq,pk,aa8,rr,yv,r5⟩:=ca.get (by decide) y5
               obtain rfl:=yv
               have iw:=dh.addPlc (b:=nq) (o:=pk+Wv aH*1) (cs:=[Ws iS]) (fun j c hj=>r5 j _ (Ak hj)) rfl (by kernel_rfl) (by kernel_rfl)
               refine Az 22 (aH) [Ws iS] (fun _ _ _ _ _ h=>h) rfl rfl (Aj oi (by kernel_rfl)) rfl (by decide) (by kernel_rfl) (by kernel_rfl) oi dh.plOk (by rfl) (by rfl) (by rfl) rr (by rfl) wo wy (by kernel_rfl) fun aah (u1:Kn 199 [(f,0),(g,0),(k,0),(p,q+Wv aB*3),(ab,ac+Wv aB*3),(ad,ae+Wv aB*3),(ah,0),(c7,db+Wv aH*1),(dt,d8+Wv aH*1),(ef,es+Wv aH*1),(nq,pk+Wv aH*1)] ((tP 156 10 0)::(tI 155 aH)::(tS 154 l bC.1.length m)::(tB 153 true)::(tB 150 false)::(tI 20 aH)::(BM af bL ag l bC m aB d aC e stop aV aE words aF)) aah)=>?_
               refine Dr [23,24,25,26,27,28] (dn 28) ((tB 162 (decide (iS>r_.gap)))::(tI 20 aH)::(BM af bL ag l bC m aB d aC e stop aV aE words aF)) u1 iw fun acy lr=>?_
               refine A2 (by kernel_rfl) (wC (decide (iS>r_.gap)) lr (fun lh=>?_) (fun lh=>?_))
               ·
                rw [lh,XW] at bt
                refine XT (Aa (Rk 0 1 [tB 8 false] lr iw fun acz u2=>?_))
                refine wf (wp_ret ?_)
                exact rt (.one (.c (.bool false))) u2 iw ⟨_,bt,rfl⟩
               ·
                rw [lh,XV] at bt
                refine wp_skip (Aa (Rk 0 3 ((tI 20 (Wt (aH+1)))::(BM af bL ag l bC m aB d aC e stop aV aE words aF)) lr iw fun ac0 u4=>?_))
                refine wf ?_
                exact XY kf ⟨Xc _,XY (Wt (aH+1)) ⟨_,_,rfl,(u4.keep [20,18,16,14,13,12,9,4,2] (by rfl)).cut 7 (by kernel_rfl),iw.cutPl 7 (by kernel_rfl),iv,bt⟩⟩
              ·
               rw [iq,XV] at bt
               have u5:Kn 199 (Sd f g k p q aB ab ac ad ae ah c7 db aH dt d8 ef es) ((tB 153 false)::(tB 150 false)::(tI 20 aH)::(BM af bL ag l bC m aB d aC e stop aV aE words aF)) pu:=(oh.setB 153 false (by rfl) iq).kp
               refine Dr [20,21,22,23,24,25,26,27,28] (dn 28) ((tB 162 false)::(tI 20 aH)::(BM af bL ag l bC m aB d aC e stop aV aE words aF)) u5 dh fun ac1 oj=>?_
               refine A2 (by kernel_rfl) (wC false oj (fun hb=>?_) (fun hb=>?_))
               ·
                cases hb
               refine wp_skip (Aa (Rk 0 3 ((tI 20 (Wt (aH+1)))::(BM af bL ag l bC m aB d aC e stop aV aE words aF)) oj dh fun ac2 u6=>?_))
               refine wf ?_
               exact XY kf ⟨Xc _,XY (Wt (aH+1)) ⟨_,_,rfl,(u6.keep [20,18,16,14,13,12,9,4,2] (by rfl)).cut 7 (by kernel_rfl),dh.cutPl 7 (by kernel_rfl),iv,bt⟩⟩
           ·
            rw [lg,XV] at bt
            refine wp_exit ?_
            exact XY () ⟨_,_,rfl,lq.kp,gi,iv,bt⟩
         ·
          rintro _ afd ⟨pm,nf,jz,rfl,u7,ix,d6,bi⟩
          rw [p4] at bi
          replace a2:=a2.mono d6
          replace a3:=a3.mono d6
          replace a4:=a4.mono d6
          replace b6:=b6.mono d6
          refine XT (Am (by kernel_rfl) ?_)
          replace ix:=ix.drew
          refine Ao [] (DV f g k p q aB ab ac ad ae ah) [⟨UB s r_ y u z x aa,some 28⟩,⟨OL aw a az ax a0 ay a1,some 32⟩,⟨Nx ai bZ am aj an ak al,some 50⟩,⟨OL bc cF bf bd bg be bh,none⟩,⟨OL a5 dP a8 a6 a9 a7 ba,none⟩,⟨OL ao cX ar ap au aq av,none⟩,⟨ER bn cC bq bo br bp bs,some 52⟩] ?_
          refine Dr [0,2,3] [3,2,0] ((tI 167 aB)::(tS 166 d aC.length e)::(tA 164 (UB s r_ y u z x aa))::(tP 18 6 0)::(BN l bC m aB d aC e stop aV aE words aF)) u7 ix fun ac4 u9=>?_
          obtain⟨fD,ex168,bi⟩:=bi
          obtain⟨wp,wz,y6⟩:=Ai ex168
          obtain⟨ch,co,aa9,rs,yw,r6⟩:=b6.get (by decide) y6
          obtain⟨_,_,rfl,⟨c4,c8,rfl,ms⟩,⟨_,_,rfl,⟨c5,c9,rfl,mt⟩,⟨c6,da,rfl,mu⟩⟩⟩:=yw
          have mb:=ix.addPlc (b:=ch) (o:=co+Wv aB*3) (cs:=(OL c4 fD c8 c5 c9 c6 da)) (fun j c hj=>r6 j _ (Ak hj)) rfl (by kernel_rfl) (by kernel_rfl)
          refine Az 4 (aB) (OL c4 fD c8 c5 c9 c6 da) (fun _ _ _ _ _ h=>h) rfl rfl (rfl) rfl (by decide) (by kernel_rfl) (by kernel_rfl) u9 ix.plOk (by rfl) (by rfl) (by rfl) rs (by rfl) wp wz (by kernel_rfl) fun aai (vb:Kn 199 (Jf f g k p q aB ab ac ad ae ah ch co) ((tP 168 7 0)::(tI 167 aB)::(tS 166 d aC.length e)::(tA 164 (UB s r_ y u z x aa))::(tP 18 6 0)::(BN l bC m aB d aC e stop aV aE words aF)) aai)=>?_
          refine Dr [5,8] [8,5,4,3,2,0] ((tA 172 (ER bn cC bq bo br bp bs))::(tA 169 (OL c4 fD c8 c5 c9 c6 da))::(tA 164 (UB s r_ y u z x aa))::(BN l bC m aB d aC e stop aV aE words aF)) vb mb fun ac5 vc=>?_
          obtain⟨fO,ex165,bi⟩:=bi
          refine Dl 1 fun K hK=>?_
          refine wc [.agg (UB s r_ y u z x aa)] vc mb (Fa bj mb.has r_ ((Ab (Ad a2) (Ab (Ab Ac Ac) (Ab (Ad a3) (Ab (Ad a4) (Ab Ac (Ab Ac (Ab Ac Ac))))))):rep jz r_ _) ex165) fun ad3 rf afe qs em mc=>?_
          replace ms:=ms.mono em
          replace mt:=mt.mono em
          replace mu:=mu.mono em
          obtain⟨_,rfl,⟨_,_,rfl,⟨dq,d0,rfl,mv⟩,⟨_,_,rfl,⟨_,_,rfl,rfl,rfl⟩,⟨_,_,rfl,⟨dr,d1,rfl,mw⟩,⟨_,_,rfl,⟨ds,d2,rfl,mx⟩,⟨_,_,rfl,rfl,⟨_,_,rfl,rfl,⟨_,_,rfl,rfl,rfl⟩⟩⟩⟩⟩⟩⟩⟩:=qs
          refine⟨.one (.agg (UB dq fO d0 dr d1 ds d2)),rfl,fun aaj (vd:Kn 199 (Jf f g k p q aB ab ac ad ae ah ch co) ((tA 165 (UB dq fO d0 dr d1 ds d2))::(tA 172 (ER bn cC bq bo br bp bs))::(tA 169 (OL c4 fD c8 c5 c9 c6 da))::(tA 164 (UB s r_ y u z x aa))::(BN l bC m aB d aC e stop aV aE words aF)) aaj)=>hK _ _ mc.plOk ?_⟩
          obtain⟨fT,ex170,bi⟩:=bi
          refine Dl 6 fun K hK=>?_
          refine wc [.agg (OL c4 fD c8 c5 c9 c6 da)] vd mc (G4 bj mc.has fD ((Ab (Ad ms) (Ab (Ad mt) (Ad mu))):rep rf fD _) ex170) fun ad4 rh afg qt en md=>?_
          obtain⟨_,rfl,⟨_,_,rfl,⟨ec,ej,rfl,xt⟩,⟨_,_,rfl,⟨ed,ek,rfl,xu⟩,⟨ee,el,rfl,xv⟩⟩⟩⟩:=qt
          refine⟨.one (.agg (OL ec fT ej ed ek ee el)),rfl,fun aak (ve:Kn 199 (Jf f g k p q aB ab ac ad ae ah ch co) ((tA 170 (OL ec fT ej ed ek ee el))::(tA 165 (UB dq fO d0 dr d1 ds d2))::(tA 172 (ER bn cC bq bo br bp bs))::(tA 169 (OL c4 fD c8 c5 c9 c6 da))::(tA 164 (UB s r_ y u z x aa))::(BN l bC m aB d aC e stop aV aE words aF)) aak)=>hK _ _ md.plOk ?_⟩
          obtain⟨fX,ex171,bi⟩:=bi
          refine Dl 7 fun K hK=>?_
          refine wc [.agg (OL ec fT ej ed ek ee el)] ve md (F3 bj md.has fT ((Ab (Ad xt) (Ab (Ad xu) (Ad xv))):rep rh fT _) ex171) fun ad5 ri afh qv eo me=>?_
          replace fn:=fn.mono (XU (XU (XU d6 em) en) eo)
          replace fo:=fo.mono (XU (XU (XU d6 em) en) eo)
          replace fp:=fp.mono (XU (XU (XU d6 em) en) eo)
          obtain⟨_,rfl,⟨_,_,rfl,⟨e3,fi,rfl,my⟩,⟨_,_,rfl,⟨e4,fj,rfl,mz⟩,⟨e5,fk,rfl,m0⟩⟩⟩⟩:=qv
          refine⟨.one (.agg (OL e3 fX fi e4 fj e5 fk)),rfl,fun aal (vf:Kn 199 (Jf f g k p q aB ab ac ad ae ah ch co) ((tA 171 (OL e3 fX fi e4 fj e5 fk))::(tA 170 (OL ec fT ej ed ek ee el))::(tA 165 (UB dq fO d0 dr d1 ds d2))::(tA 172 (ER bn cC bq bo br bp bs))::(tA 169 (OL c4 fD c8 c5 c9 c6 da))::(tA 164 (UB s r_ y u z x aa))::(BN l bC m aB d aC e stop aV aE words aF)) aal)=>hK _ _ me.plOk ?_⟩
          obtain⟨gK,ex173,bi⟩:=bi
          refine Dl 9 fun K hK=>?_
          refine wc [.agg (ER bn cC bq bo br bp bs)] vf me (Ng bj me.has cC.1 ((Ab (Ad fn) (Ab (Ad fo) (Ad fp))):rep ri cC.1 _) ex173) fun ad6 rj afi qw ep mf=>?_
          obtain⟨_,rfl,⟨_,_,rfl,⟨g7,h0,rfl,xw⟩,⟨_,_,rfl,⟨g8,h1,rfl,xx⟩,⟨g9,h2,rfl,xy⟩⟩⟩⟩:=qw
          refine⟨.one (.agg (Wr gK g7 h0 g8 h1 g9 h2)),rfl,fun aam (vg:Kn 199 (Jf f g k p q aB ab ac ad ae ah ch co) ((tA 173 (Wr gK g7 h0 g8 h1 g9 h2))::(tA 171 (OL e3 fX fi e4 fj e5 fk))::(tA 170 (OL ec fT ej ed ek ee el))::(tA 165 (UB dq fO d0 dr d1 ds d2))::(tA 172 (ER bn cC bq bo br bp bs))::(tA 169 (OL c4 fD c8 c5 c9 c6 da))::(tA 164 (UB s r_ y u z x aa))::(BN l bC m aB d aC e stop aV aE words aF)) aam)=>hK _ _ mf.plOk ?_⟩
          obtain⟨gS,ex174,bi⟩:=bi
          refine Dl 10 fun K hK=>?_
          refine wc [.agg (Wr gK g7 h0 g8 h1 g9 h2)] vg mf (LP bj mf.has gK ((Ab (Ad xw) (Ab (Ad xx) (Ad xy))):rep rj gK _) ex174) fun ad7 k9 afj qx er mg=>?_
          replace mv:=mv.mono (XU (XU (XU en eo) ep) er)
          replace mw:=mw.mono (XU (XU (XU en eo) ep) er)
          replace mx:=mx.mono (XU (XU (XU en eo) ep) er)
          replace my:=my.mono (XU ep er)
          replace mz:=mz.mono (XU ep er)
          replace m0:=m0.mono (XU ep er)
          obtain⟨_,rfl,⟨_,_,rfl,⟨i8,jr,rfl,x0⟩,⟨_,_,rfl,⟨i9,js,rfl,x1⟩,⟨ja,jt,rfl,x2⟩⟩⟩⟩:=qx
          refine⟨.one (.agg (Wr gS i8 jr i9 js ja jt)),rfl,fun aan (vh:Kn 199 (Jf f g k p q aB ab ac ad ae ah ch co) ((tA 174 (Wr gS i8 jr i9 js ja jt))::(tA 173 (Wr gK g7 h0 g8 h1 g9 h2))::(tA 171 (OL e3 fX fi e4 fj e5 fk))::(tA 170 (OL ec fT ej ed ek ee el))::(tA 165 (UB dq fO d0 dr d1 ds d2))::(tA 172 (ER bn cC bq bo br bp bs))::(tA 169 (OL c4 fD c8 c5 c9 c6 da))::(tA 164 (UB s r_ y u z x aa))::(BN l bC m aB d aC e stop aV aE words aF)) aan)=>hK _ _ mg.plOk ?_⟩
          obtain⟨dR,ex175,bi⟩:=bi
          refine Dl 11 fun K hK=>?_
          refine wc [.agg (UB dq fO d0 dr d1 ds d2),.agg (OL e3 fX fi e4 fj e5 fk),.agg (Wr gS i8 jr i9 js ja jt)] vh mg (Jb bj mg.has fO ((Ab (Ad mv) (Ab (Ab Ac Ac) (Ab (Ad mw) (Ab (Ad mx) (Ab Ac (Ab Ac (Ab Ac Ac))))))):rep k9 fO _) fX ((Ab (Ad my) (Ab (Ad mz) (Ad m0))):rep k9 fX _) gS ((Ab (Ad x0) (Ab (Ad x1) (Ad x2))):rep k9 gS _) ex175) fun ad8 abg afk qy lu cx=>?_
          replace ca:=ca.mono (XU (XU (XU (XU (XU (XU d6 em) en) eo) ep) er) lu)
          replace b8:=b8.mono (XU (XU (XU (XU (XU (XU d6 em) en) eo) ep) er) lu)
          obtain⟨_,_,rfl,⟨de,df,rfl,x3⟩,rfl⟩:=qy
          refine⟨.tup [.c (Wu de dR.1.length df),.c (Ws dR.2)],rfl,fun aao (vi:Kn 199 (Jf f g k p q aB ab ac ad ae ah ch co) ((175,.tup [.c (Wu de dR.1.length df),.c (Ws dR.2)])::(tA 174 (Wr gS i8 jr i9 js ja jt))::(tA 173 (Wr gK g7 h0 g8 h1 g9 h2))::(tA 171 (OL e3 fX fi e4 fj e5 fk))::(tA 170 (OL ec fT ej ed ek ee el))::(tA 165 (UB dq fO d0 dr d1 ds d2))::(tA 172 (ER bn cC bq bo br bp bs))::(tA 169 (OL c4 fD c8 c5 c9 c6 da))::(tA 164 (UB s r_ y u z x aa))::(BN l bC m aB d aC e stop aV aE words aF)) aao)=>hK _ _ cx.plOk ?_⟩
          refine Dr [12,13,14,15,16] [16,15,14,13,12,11,10,9,7,6,1,8,5,4,3,2,0] ((tI 22 dR.2)::(tS 21 de dR.1.length df)::(BN l bC m aB d aC e stop aV aE words aF)) vi cx fun ac6 vj=>?_
          refine A2 (by kernel_rfl) (XT (Am (by kernel_rfl) ?_))
          replace cx:=cx.drew
          refine Ao [] (Jf f g k p q aB ab ac ad ae ah ch co) [⟨UB s r_ y u z x aa,some 28⟩,⟨OL aw a az ax a0 ay a1,some 32⟩,⟨Nx ai bZ am aj an ak al,some 50⟩,⟨OL bc cF bf bd bg be bh,none⟩,⟨OL a5 dP a8 a6 a9 a7 ba,none⟩,⟨OL ao cX ar ap au aq av,none⟩,⟨ER bn cC bq bo br bp bs,some 52⟩,⟨OL c4 fD c8 c5 c9 c6 da,none⟩] ?_
          refine Dr [0,1,2] [2,1,0] ((tB 180 (dR.2 != 0))::(tS 21 de dR.1.length df)::(BN l bC m aB d aC e stop aV aE words aF)) vj cx fun pv ok=>?_
          rcases Xb ((dR.2 != 0)) with ir | ir
          ·
           rw [ir,XW] at bi
           have vk:Kn 199 (Jf f g k p q aB ab ac ad ae ah ch co) ((tB 180 true)::(tS 21 de dR.1.length df)::(BN l bC m aB d aC e stop aV aE words aF)) pv:=(ok.setB 180 true (by rfl) ir).kp
           refine Dr [3,4,5,6,7,8,9,10,11,12,13,14,15,16,17,18,19] (dn 19) ((tB 197 true)::(tI 13 aB)::(tS 12 d aC.length e)::(DL stop aV aE words aF)) vk cx fun ac7 ol=>?_
           refine A2 (by kernel_rfl) (wC true ol (fun hb=>?_) (fun hb=>?_))
           rotate_left
           ·
            cases hb
           refine XT (Aa (Rk 0 1 [tB 8 false] ol cx fun ac8 vl=>?_))
           refine wf (wp_ret ?_)
           exact rt (.one (.c (.bool false))) vl cx ⟨_,bi,rfl⟩
          ·
           rw [ir,XV] at bi
           have vm:Kn 199 (Jf f g k p q aB ab ac ad ae ah ch co) ((tB 180 false)::(tS 21 de dR.1.length df)::(BN l bC m aB d aC e stop aV aE words aF)) pv:=(ok.setB 180 false (by rfl) ir).kp
           refine Dr [3,4,5,6,7,8,9] (dn 9) ((tB 187 (((dR.1.length:Nat):Int) != ((bC.1.length:Nat):Int)))::(tS 21 de dR.1.length df)::(BN l bC m aB d aC e stop aV aE words aF)) vm cx fun pw om=>?_
           rcases Xb ((((dR.1.length:Nat):Int) != ((bC.1.length:Nat):Int))) with iu | iu
           ·
            rw [iu,XW] at bi
            have vn:Kn 199 (Jf f g k p q aB ab ac ad ae ah ch co) ((tB 187 true)::(tS 21 de dR.1.length df)::(BN l bC m aB d aC e stop aV aE words aF)) pw:=(om.setB 187 true (by rfl) iu).kp
            refine Dr [10,11,12,13,14,15,16,17,18,19] (dn 19) ((tB 197 true)::(tI 13 aB)::(tS 12 d aC.length e)::(DL stop aV aE words aF)) vn cx fun ac9 oo=>?_
            refine A2 (by kernel_rfl) (wC true oo (fun hb=>?_) (fun hb=>?_))
            rotate_left
            ·
             cases hb
            refine XT (Aa (Rk 0 1 [tB 8 false] oo cx fun ada vo=>?_))
            refine wf (wp_ret ?_)
            exact rt (.one (.c (.bool false))) vo cx ⟨_,bi,rfl⟩
           ·
            rw [iu,XV] at bi
            have vp:Kn 199 (Jf f g k p q aB ab ac ad ae ah ch co) ((tB 187 false)::(tS 21 de dR.1.length df)::(BN l bC m aB d aC e stop aV aE words aF)) pw:=(om.setB 187 false (by rfl) iu).kp
            refine Dr [10,11] (dn 11) ((tI 189 (Int.tmod (Wt stop.n) aV))::(tS 188 de dR.1.length df)::(tB 187 false)::(BN l bC m aB d aC e stop aV aE words aF)) vp cx fun adb op=>?_
            obtain⟨gT,ex190,bi⟩:=bi
            obtain⟨wq,w0,y7⟩:=Ai ex190
            obtain⟨kt,m8,aba,ru,yx,r7⟩:=x3.get (by decide) y7
            obtain rfl:=yx
            have mh:=cx.addPlc (b:=kt) (o:=m8+(Int.tmod (Wt stop.n) aV:Int).toNat*1) (cs:=[Ws gT]) (fun j c hj=>r7 j _ (Ak hj)) rfl (by kernel_rfl) (by kernel_rfl)
            refine Az 12 (Int.tmod (Wt stop.n) aV) [Ws gT] (fun _ _ _ _ _ h=>h) rfl rfl (Aj op (by kernel_rfl)) rfl (by decide) (by kernel_rfl) (by kernel_rfl) op cx.plOk (by rfl) (by rfl) (by rfl) ru (by rfl) wq w0 (by kernel_rfl) fun aap (vq:Kn 199 [(f,0),(g,0),(k,0),(p,q+Wv aB*3),(ab,ac+Wv aB*3),(ad,ae+Wv aB*3),(ah,0),(ch,co+Wv aB*3),(kt,m8+(Int.tmod (Wt stop.n) aV:Int).toNat*1)] ((tP 190 8 0)::(tI 189 (Int.tmod (Wt stop.n) aV))::(tS 188 de dR.1.length df)::(tB 187 false)::(BN l bC m aB d aC e stop aV aE words aF)) aap)=>?_
            refine Dr [13,14,15] (dn 15) ((tI 193 (Int.tmod (Wt stop.n) aV))::(tS 192 l bC.1.length m)::(tI 191 gT)::(tB 187 false)::(tI 13 aB)::(tS 12 d aC.length e)::(DL stop aV aE words aF)) vq mh fun adc oq=>?_
            obtain⟨iT,ex194,bi⟩:=bi
            obtain⟨wr,w1,y8⟩:=Ai ex194
            obtain⟨nr,pl,abb,rv,yy,r8⟩:=ca.get (by decide) y8
            obtain rfl:=yy
            have iy:=mh.addPlc (b:=nr) (o:=pl+(Int.tmod (Wt stop.n) aV:Int).toNat*1) (cs:=[Ws iT]) (fun j c hj=>r8 j _ (Ak hj)) rfl (by kernel_rfl) (by kernel_rfl)
            refine Az 16 (Int.tmod (Wt stop.n) aV) [Ws iT] (fun _ _ _ _ _ h=>h) rfl rfl (Aj oq (by kernel_rfl)) rfl (by decide) (by kernel_rfl) (by kernel_rfl) oq mh.plOk (by rfl) (by rfl) (by rfl) rv (by rfl) wr w1 (by kernel_rfl) fun aaq (vr:Kn 199 [(f,0),(g,0),(k,0),(p,q+Wv aB*3),(ab,ac+Wv aB*3),(ad,ae+Wv aB*3),(ah,0),(ch,co+Wv aB*3),(kt,m8+(Int.tmod (Wt stop.n) aV:Int).toNat*1),(nr,pl+(Int.tmod (Wt stop.n) aV:Int).toNat*1)] ((tP 194 9 0)::(tI 193 (Int.tmod (Wt stop.n) aV))::(tS 192 l bC.1.length m)::(tI 191 gT)::(tB 187 false)::(tI 13 aB)::(tS 12 d aC.length e)::(DL stop aV aE words aF)) aaq)=>?_
            refine Dr [17,18,19] (dn 19) ((tB 197 (gT != iT))::(tI 13 aB)::(tS 12 d aC.length e)::(DL stop aV aE words aF)) vr iy fun add ls=>?_
            refine A2 (by kernel_rfl) (wC ((gT != iT)) ls (fun li=>?_) (fun li=>?_))
            ·
             rw [li,XW] at bi
             refine XT (Aa (Rk 0 1 [tB 8 false] ls iy fun ade vs=>?_))
             refine wf (wp_ret ?_)
             exact rt (.one (.c (.bool false))) vs iy ⟨_,bi,rfl⟩
            ·
             rw [li,XV] at bi
             refine wp_skip (Aa (Rk 0 3 ((tI 13 (Wt (aB+1)))::(tS 12 d aC.length e)::(DL stop aV aE words aF)) ls iy fun adf vt=>?_))
             refine wf ?_
             exact XY bj ⟨Xc _,XY aC ⟨Wt (aB+1),d,e,b7,(b7:Wx).length,_,_,rfl,(vt.keep [13,12,9,4,2] (by rfl)).cut 3 (by kernel_rfl),iy.cutPl 3 (by kernel_rfl),XU dc (XU dd (XU cp (XU cf (XU cg (XU cq (XU cd (XU b3 (XU b4 (XU bw (XU bx (XU ce (XU b2 (XU bu (XU d6 (XU em (XU en (XU eo (XU ep (XU er lu))))))))))))))))))),b8,bi⟩⟩
      refine Bc (fun W=>∀ (e6:Nat),∀ (ha:Ww),∀ (h3:Nat),∀ (hc:Ww),∀ (h4:Nat),∀ (hd:Ww),∀ (h5:Nat),∀ (fy:Ww),∀ (f5:Nat),∀ (fz:Ww),∀ (f6:Nat),∀ (f0:Ww),∀ (f7:Nat),∀ a' w',(∃ (nh:Array Value)(dg:Ae),a' = ⟨nh,[]⟩∧Kn 199 (DV f g k p q aB ab ac ad ae e6) ((tP 18 6 0)::(tA 92 (Wq dX ha h3 hc h4 hd h5))::(tA 86 (UB fy dI f5 fz f6 f0 f7))::(tI 93 (Int.tmod (Wt stop.n) aV))::(tI 17 bL.2)::(tS 16 af bL.1.length ag)::(tI 15 bC.2)::(BN l bC m aB d aC e stop aV aE words aF)) nh∧Ah ⟨w,h,A6⟩ dg (DV f g k p q aB ab ac ad ae e6) (FX s r_ y u z x aa aw a az ax a0 ay a1 ai bZ am aj an ak al bc cF bf bd bg be bh a5 dP a8 a6 a9 a7 ba ao cX ar ap au aq av) (Iq d aC e b7) w'∧Ae.le f8 dg∧A4 dg ha h3 dX.lD∧A4 dg hc h4 dX.lE∧A4 dg hd h5 dX.lC∧A4 dg fy f5 dI.lA∧A4 dg fz f6 dI.lB∧A4 dg f0 f7 dI.lC)→W (DV f g k p q aB ab ac ad ae e6) (FX s r_ y u z x aa aw a az ax a0 ay a1 ai bZ am aj an ak al bc cF bf bd bg be bh a5 dP a8 a6 a9 a7 ba ao cX ar ap au aq av) [7,6,1,13,8,5,4,3,2,0] a' w') ?_ (fun pg=>?_)
      ·
       intro e6 ha h3 hc h4 hd h5 fy f5 fz f6 f0 f7
       rintro _ afl ⟨nh,dg,rfl,vv,o6,v6,x6,x7,x8,x9,ya,yb⟩
       refine Dl 9 fun K hK=>?_
       refine wc [.agg (UB fy dI f5 fz f6 f0 f7),.agg (Wq dX ha h3 hc h4 hd h5),.c (Ws (Int.tmod (Wt stop.n) aV))] vv o6 (Ik bj o6.has dI ((Ab (Ad x9) (Ab (Ab Ac Ac) (Ab (Ad ya) (Ab (Ad yb) (Ab Ac (Ab Ac (Ab Ac Ac))))))):rep dg dI _) dX ((Ab (Ad x6) (Ab (Ad x7) (Ad x8))):rep dg dX _) (Int.tmod (Wt stop.n) aV) bb) fun aea abh afm qz v7 mi=>?_
       obtain⟨cC,py,⟨_,_,rfl,⟨_,rfl,⟨_,_,rfl,⟨jb,ju,rfl,yc⟩,⟨_,_,rfl,⟨jc,jv,rfl,yd⟩,⟨jd,jw,rfl,ye⟩⟩⟩⟩,rfl⟩⟩:=qz
       refine⟨.tup [.agg (Wr cC.1 jb ju jc jv jd jw),.c (Ws cC.2)],rfl,fun aas (vw:Kn 199 (DV f g k p q aB ab ac ad ae e6) ((94,.tup [.agg (Wr cC.1 jb ju jc jv jd jw),.c (Ws cC.2)])::(tP 18 6 0)::(tA 92 (Wq dX ha h3 hc h4 hd h5))::(tA 86 (UB fy dI f5 fz f6 f0 f7))::(tI 93 (Int.tmod (Wt stop.n) aV))::(tI 17 bL.2)::(tS 16 af bL.1.length ag)::(tI 15 bC.2)::(BN l bC m aB d aC e stop aV aE words aF)) aas)=>hK _ _ mi.plOk ?_⟩
       refine Dr [10,11,12] [12,11,10,9,7,6,1,13,8,5,4,3,2,0] ((tI 96 cC.2)::(tA 95 (Wr cC.1 jb ju jc jv jd jw))::(tP 18 6 0)::(tI 17 bL.2)::(tS 16 af bL.1.length ag)::(tI 15 bC.2)::(BN l bC m aB d aC e stop aV aE words aF)) vw mi fun adg vx=>?_
       refine Ax [12,11,10,9,7,6,1,13,8,5,4,3,2,0] (by kernel_rfl) (by rfl) (pf cC e6 jb ju jc jv jd jw _ _ ?_)
       exact XY _ ⟨_,rfl,vx.kp,mi,XU v6 v7,py,yc,yd,ye⟩
      refine Bc (fun W=>∀ (e7:Nat),∀ (he:Ww),∀ (h6:Nat),∀ (hf:Ww),∀ (h7:Nat),∀ (hg:Ww),∀ (h8:Nat),∀ (hl:Ww),∀ (h9:Nat),∀ (hn:Ww),∀ (ia:Nat),∀ (ho:Ww),∀ (ib:Nat),∀ a' w',(∃ (ni:Array Value)(d3:Ae),a' = ⟨ni,[]⟩∧Kn 199 (DV f g k p q aB ab ac ad ae e7) ((tP 18 6 0)::(tA 91 (Wq eA he h6 hf h7 hg h8))::(tA 86 (Wp dI hl h9 hn ia ho ib))::(tI 93 (Int.tmod (Wt stop.n) aV))::(tI 17 bL.2)::(tS 16 af bL.1.length ag)::(tI 15 bC.2)::(BN l bC m aB d aC e stop aV aE words aF)) ni∧Ah ⟨w,h,A6⟩ d3 (DV f g k p q aB ab ac ad ae e7) (FX s r_ y u z x aa aw a az ax a0 ay a1 ai bZ am aj an ak al bc cF bf bd bg be bh a5 dP a8 a6 a9 a7 ba ao cX ar ap au aq av) (Iq d aC e b7) w'∧Ae.le f8 d3∧A4 d3 he h6 eA.lD∧A4 d3 hf h7 eA.lE∧A4 d3 hg h8 eA.lC∧A4 d3 hl h9 dI.lA∧A4 d3 hn ia dI.lB∧A4 d3 ho ib dI.lC)→W (DV f g k p q aB ab ac ad ae e7) (FX s r_ y u z x aa aw a az ax a0 ay a1 ai bZ am aj an ak al bc cF bf bd bg be bh a5 dP a8 a6 a9 a7 ba ao cX ar ap au aq av) [6,1,13,8,5,4,3,2,0] a' w') ?_ (fun ph=>?_)
      ·
       intro e7 he h6 hf h7 hg h8 hl h9 hn ia ho ib
       rintro _ afo ⟨ni,d3,rfl,vy,o8,v8,yf,yg,yh,m1,m2,m3⟩
       refine Dl 7 fun K hK=>?_
       refine wc [.agg (Wq eA he h6 hf h7 hg h8)] vy o8 (F3 bj o8.has eA ((Ab (Ad yf) (Ab (Ad yg) (Ad yh))):rep d3 eA _) iI) fun aeb abi afp q1 j1 o9=>?_
       replace m1:=m1.mono j1
       replace m2:=m2.mono j1
       replace m3:=m3.mono j1
       obtain⟨_,rfl,⟨_,_,rfl,⟨km,ky,rfl,yi⟩,⟨_,_,rfl,⟨kn,kz,rfl,yj⟩,⟨ko,k0,rfl,yk⟩⟩⟩⟩:=q1
       refine⟨.one (.agg (Wq dX km ky kn kz ko k0)),rfl,fun aat (vz:Kn 199 (DV f g k p q aB ab ac ad ae e7) ((tA 92 (Wq dX km ky kn kz ko k0))::(tP 18 6 0)::(tA 91 (Wq eA he h6 hf h7 hg h8))::(tA 86 (Wp dI hl h9 hn ia ho ib))::(tI 93 (Int.tmod (Wt stop.n) aV))::(tI 17 bL.2)::(tS 16 af bL.1.length ag)::(tI 15 bC.2)::(BN l bC m aB d aC e stop aV aE words aF)) aat)=>hK _ _ o9.plOk ?_⟩
       refine Ax [7,6,1,13,8,5,4,3,2,0] (by kernel_rfl) (by rfl) (pg e7 km ky kn kz ko k0 hl h9 hn ia ho ib _ _ ?_)
       exact XY _ ⟨_,rfl,vz.kp,o9,XU v8 j1,yi,yj,yk,m1,m2,m3⟩
      refine Bc (fun W=>∀ (e8:Nat),∀ (hq:Ww),∀ (ic:Nat),∀ (hr:Ww),∀ (ie:Nat),∀ (hs:Ww),∀ (ig:Nat),∀ a' w',(∃ (nj:Array Value)(f9:Ae),a' = ⟨nj,[]⟩∧Kn 199 (DV f g k p q aB ab ac ad ae e8) ((tP 18 6 0)::(tA 86 (Wp dI hq ic hr ie hs ig))::(tI 93 (Int.tmod (Wt stop.n) aV))::(tA 90 (OL ao cX ar ap au aq av))::(tI 17 bL.2)::(tS 16 af bL.1.length ag)::(tI 15 bC.2)::(BN l bC m aB d aC e stop aV aE words aF)) nj∧Ah ⟨w,h,A6⟩ f9 (DV f g k p q aB ab ac ad ae e8) (FX s r_ y u z x aa aw a az ax a0 ay a1 ai bZ am aj an ak al bc cF bf bd bg be bh a5 dP a8 a6 a9 a7 ba ao cX ar ap au aq av) (Iq d aC e b7) w'∧Ae.le f8 f9∧A4 f9 hq ic dI.lA∧A4 f9 hr ie dI.lB∧A4 f9 hs ig dI.lC)→W (DV f g k p q aB ab ac ad ae e8) (FX s r_ y u z x aa aw a az ax a0 ay a1 ai bZ am aj an ak al bc cF bf bd bg be bh a5 dP a8 a6 a9 a7 ba ao cX ar ap au aq av) [1,13,8,5,4,3,2,0] a' w') ?_ (fun pi=>?_)
      ·
       intro e8 hq ic hr ie hs ig
       rintro _ afq ⟨nj,f9,rfl,v0,pa,j2,m4,m5,m6⟩
       replace ct:=ct.mono j2
       replace cu:=cu.mono j2
       replace cv:=cv.mono j2
       refine Dl 6 fun K hK=>?_
       refine wc [.agg (OL ao cX ar ap au aq av)] v0 pa (G4 bj pa.has cX ((Ab (Ad ct) (Ab (Ad cu) (Ad cv))):rep f9 cX _) ex91) fun aec abj afr q2 j3 pb=>?_
       replace m4:=m4.mono j3
       replace m5:=m5.mono j3
       replace m6:=m6.mono j3
       obtain⟨_,rfl,⟨_,_,rfl,⟨kq,k1,rfl,yl⟩,⟨_,_,rfl,⟨kr,k2,rfl,ym⟩,⟨ks,k3,rfl,yn⟩⟩⟩⟩:=q2
       refine⟨.one (.agg (Wq eA kq k1 kr k2 ks k3)),rfl,fun aau (v1:Kn 199 (DV f g k p q aB ab ac ad ae e8) ((tA 91 (Wq eA kq k1 kr k2 ks k3))::(tP 18 6 0)::(tA 86 (Wp dI hq ic hr ie hs ig))::(tI 93 (Int.tmod (Wt stop.n) aV))::(tA 90 (OL ao cX ar ap au aq av))::(tI 17 bL.2)::(tS 16 af bL.1.length ag)::(tI 15 bC.2)::(BN l bC m aB d aC e stop aV aE words aF)) aau)=>hK _ _ pb.plOk ?_⟩
       refine Ax [6,1,13,8,5,4,3,2,0] (by kernel_rfl) (by rfl) (ph e8 kq k1 kr k2 ks k3 hq ic hr ie hs ig _ _ ?_)
       exact XY _ ⟨_,rfl,v1.kp,pb,XU j2 j3,yl,ym,yn,m4,m5,m6⟩
      refine D0 1 13 rfl rfl (by kernel_rfl) (by decide) (rfl) (rfl) (fun K hK=>?_) (fun K hK=>?_)
      ·
       refine wc [.agg (UB s r_ y u z x aa)] n1 l7 (Fa bj l7.has r_ ((Ab (Ad a2) (Ab (Ab Ac Ac) (Ab (Ad a3) (Ab (Ad a4) (Ab Ac (Ab Ac (Ab Ac Ac))))))):rep f8 r_ _) jM) fun aed nw afs q3 bv kb=>?_
       replace a2:=a2.mono bv
       replace a3:=a3.mono bv
       replace a4:=a4.mono bv
       replace bz:=bz.mono bv
       replace b0:=b0.mono bv
       replace b1:=b1.mono bv
       replace aY:=aY.mono bv
       replace cb:=cb.mono bv
       replace cc:=cc.mono bv
       replace b9:=b9.mono bv
       replace b6:=b6.mono bv
       replace ci:=ci.mono bv
       replace cj:=cj.mono bv
       replace ck:=ck.mono bv
       replace ca:=ca.mono bv
       replace cl:=cl.mono bv
       replace cm:=cm.mono bv
       replace cn:=cn.mono bv
       replace cr:=cr.mono bv
       replace ct:=ct.mono bv
       replace cu:=cu.mono bv
       replace cv:=cv.mono bv
       replace b8:=b8.mono bv
       obtain⟨_,rfl,⟨_,_,rfl,⟨cy,c1,rfl,fq⟩,⟨_,_,rfl,⟨_,_,rfl,rfl,rfl⟩,⟨_,_,rfl,⟨cz,c2,rfl,fs⟩,⟨_,_,rfl,⟨c0,c3,rfl,ft⟩,⟨_,_,rfl,rfl,⟨_,_,rfl,rfl,⟨_,_,rfl,rfl,rfl⟩⟩⟩⟩⟩⟩⟩⟩:=q3
       refine⟨.one (.agg (UB cy dI c1 cz c2 c0 c3)),rfl,fun aav (os:Kn 199 (Qi f g k p q aB ab ac ad ae) ((tA 86 (UB cy dI c1 cz c2 c0 c3))::(JV stop aV ao cX ar ap au aq av s r_ y u z x aa bL af ag bC l m aB d aC e aE words aF)) aav)=>hK _ _ kb.plOk ?_⟩
       refine D0 6 13 rfl rfl (by kernel_rfl) (by decide) (rfl) (rfl) (fun K hK=>?_) (fun K hK=>?_)
       ·
        refine wc [.agg (OL ao cX ar ap au aq av)] os kb (G4 bj kb.has cX ((Ab (Ad ct) (Ab (Ad cu) (Ad cv))):rep nw cX _) ex91) fun aee nx aft p6 bl j4=>?_
        replace a2:=a2.mono bl
        replace a3:=a3.mono bl
        replace a4:=a4.mono bl
        replace bz:=bz.mono bl
        replace b0:=b0.mono bl
        replace b1:=b1.mono bl
        replace aY:=aY.mono bl
        replace cb:=cb.mono bl
        replace cc:=cc.mono bl
        replace b9:=b9.mono bl
        replace b6:=b6.mono bl
        replace ci:=ci.mono bl
        replace cj:=cj.mono bl
        replace ck:=ck.mono bl
        replace ca:=ca.mono bl
        replace cl:=cl.mono bl
        replace cm:=cm.mono bl
        replace cn:=cn.mono bl
        replace cr:=cr.mono bl
        replace ct:=ct.mono bl
        replace cu:=cu.mono bl
        replace cv:=cv.mono bl
        replace fq:=fq.mono bl
        replace fs:=fs.mono bl
        replace ft:=ft.mono bl
        replace b8:=b8.mono bl
        obtain⟨_,rfl,⟨_,_,rfl,⟨di,du,rfl,kc⟩,⟨_,_,rfl,⟨dj,dv,rfl,kd⟩,⟨dk,dw,rfl,ke⟩⟩⟩⟩:=p6
        refine⟨.one (.agg (OL di eA du dj dv dk dw)),rfl,fun zb (nz:Kn 199 (Qi f g k p q aB ab ac ad ae) ((tA 91 (OL di eA du dj dv dk dw))::(tA 86 (UB cy dI c1 cz c2 c0 c3))::(JV stop aV ao cX ar ap au aq av s r_ y u z x aa bL af ag bC l m aB d aC e aE words aF)) zb)=>hK _ _ j4.plOk ?_⟩
        refine D0 7 13 rfl rfl (by kernel_rfl) (by decide) (rfl) (rfl) (fun K hK=>?_) (fun K hK=>?_)
        ·
         refine wc [.agg (OL di eA du dj dv dk dw)] nz j4 (F3 bj j4.has eA ((Ab (Ad kc) (Ab (Ad kd) (Ad ke))):rep nx eA _) iI) fun adh k5 aef p7 bk j5=>?_
         replace a2:=a2.mono bk
         replace a3:=a3.mono bk
         replace a4:=a4.mono bk
         replace bz:=bz.mono bk
         replace b0:=b0.mono bk
         replace b1:=b1.mono bk
         replace aY:=aY.mono bk
         replace cb:=cb.mono bk
         replace cc:=cc.mono bk
         replace b9:=b9.mono bk
         replace b6:=b6.mono bk
         replace ci:=ci.mono bk
         replace cj:=cj.mono bk
         replace ck:=ck.mono bk
         replace ca:=ca.mono bk
         replace cl:=cl.mono bk
         replace cm:=cm.mono bk
         replace cn:=cn.mono bk
         replace cr:=cr.mono bk
         replace ct:=ct.mono bk
         replace cu:=cu.mono bk
         replace cv:=cv.mono bk
         replace fq:=fq.mono bk
         replace fs:=fs.mono bk
         replace ft:=ft.mono bk
         replace kc:=kc.mono bk
         replace kd:=kd.mono bk
         replace ke:=ke.mono bk
         replace b8:=b8.mono bk
         obtain⟨_,rfl,⟨_,_,rfl,⟨gk,gq,rfl,pc⟩,⟨_,_,rfl,⟨gl,gr,rfl,pd⟩,⟨gm,gs,rfl,pe⟩⟩⟩⟩:=p7
         refine⟨.one (.agg (Wq dX gk gq gl gr gm gs)),rfl,fun zd (n0:Kn 199 (Qi f g k p q aB ab ac ad ae) ((tA 92 (Wq dX gk gq gl gr gm gs))::(tA 91 (OL di eA du dj dv dk dw))::(tA 86 (UB cy dI c1 cz c2 c0 c3))::(JV stop aV ao cX ar ap au aq av s r_ y u z x aa bL af ag bC l m aB d aC e aE words aF)) zd)=>hK _ _ j5.plOk ?_⟩
         refine D0 9 13 rfl rfl (by kernel_rfl) (by decide) (rfl) (rfl) (fun K hK=>?_) (fun K hK=>?_)
         ·
          refine wc [.agg (UB cy dI c1 cz c2 c0 c3),.agg (Wq dX gk gq gl gr gm gs),.c (Ws (Int.tmod (Wt stop.n) aV))] n0 j5 (Ik bj j5.has dI ((Ab (Ad fq) (Ab (Ab Ac Ac) (Ab (Ad fs) (Ab (Ad ft) (Ab Ac (Ab Ac (Ab Ac Ac))))))):rep k5 dI _) dX ((Ab (Ad pc) (Ab (Ad pd) (Ad pe))):rep k5 dX _) (Int.tmod (Wt stop.n) aV) bb) fun adi q4 aeg p8 v3 lv=>?_
          obtain⟨cC,px,⟨_,_,rfl,⟨_,rfl,⟨_,_,rfl,⟨g0,ht,rfl,w2⟩,⟨_,_,rfl,⟨g1,hu,rfl,w3⟩,⟨g2,hv,rfl,w4⟩⟩⟩⟩,rfl⟩⟩:=p8
          refine⟨.tup [.agg (Wr cC.1 g0 ht g1 hu g2 hv),.c (Ws cC.2)],rfl,fun ze (sb:Kn 199 (Qi f g k p q aB ab ac ad ae) ((94,.tup [.agg (Wr cC.1 g0 ht g1 hu g2 hv),.c (Ws cC.2)])::(tA 92 (Wq dX gk gq gl gr gm gs))::(tA 91 (OL di eA du dj dv dk dw))::(tA 86 (UB cy dI c1 cz c2 c0 c3))::(JV stop aV ao cX ar ap au aq av s r_ y u z x aa bL af ag bC l m aB d aC e aE words aF)) ze)=>hK _ _ lv.plOk ?_⟩
          refine Dr [10,11,12] [12,11,10,9,7,6,1,8,5,4,3,2,0] ((tI 96 cC.2)::(tA 95 (Wr cC.1 g0 ht g1 hu g2 hv))::(tI 17 bL.2)::(tS 16 af bL.1.length ag)::(tI 15 bC.2)::(BN l bC m aB d aC e stop aV aE words aF)) sb lv fun abp sd=>?_
          refine Dl 13 fun K hK=>?_
          refine JF 6 UE sd lv fun je zf aaw (se:Kn 199 [(f,0),(g,0),(k,0),(p,q+Wv aB*3),(ab,ac+Wv aB*3),(ad,ae+Wv aB*3),(je,0)] ((tP 18 6 0)::(tI 96 cC.2)::(tA 95 (Wr cC.1 g0 ht g1 hu g2 hv))::(tI 17 bL.2)::(tS 16 af bL.1.length ag)::(tI 15 bC.2)::(BN l bC m aB d aC e stop aV aE words aF)) zf) (ot:Ah ⟨w,h,A6⟩ q4 [(f,0),(g,0),(k,0),(p,q+Wv aB*3),(ab,ac+Wv aB*3),(ad,ae+Wv aB*3),(je,0)] (FX s r_ y u z x aa aw a az ax a0 ay a1 ai bZ am aj an ak al bc cF bf bd bg be bh a5 dP a8 a6 a9 a7 ba ao cX ar ap au aq av) (Iq d aC e b7) aaw)=>hK _ _ (Ay.unset 6 rfl (by kernel_rfl) ot.plOk) (Cf (e':=[(f,0),(g,0),(k,0),(p,q+Wv aB*3),(ab,ac+Wv aB*3),(ad,ae+Wv aB*3),(je,0)]) (pl':=(FX s r_ y u z x aa aw a az ax a0 ay a1 ai bZ am aj an ak al bc cF bf bd bg be bh a5 dP a8 a6 a9 a7 ba ao cX ar ap au aq av)) (fun _ hp=>hp.unset 6 rfl (by kernel_rfl)) ?_)
          refine Ax [12,11,10,9,7,6,1,13,8,5,4,3,2,0] (by kernel_rfl) (by rfl) (pf cC je g0 ht g1 hu g2 hv _ _ ?_)
          exact XY _ ⟨_,rfl,se.kp,ot,XU bv (XU bl (XU bk v3)),px,w2,w3,w4⟩
         ·
          refine JF 6 UE n0 j5 fun jf zg aax (sf:Kn 199 [(f,0),(g,0),(k,0),(p,q+Wv aB*3),(ab,ac+Wv aB*3),(ad,ae+Wv aB*3),(jf,0)] ((tP 18 6 0)::(tA 92 (Wq dX gk gq gl gr gm gs))::(tA 91 (OL di eA du dj dv dk dw))::(tA 86 (UB cy dI c1 cz c2 c0 c3))::(JV stop aV ao cX ar ap au aq av s r_ y u z x aa bL af ag bC l m aB d aC e aE words aF)) zg) (ou:Ah ⟨w,h,A6⟩ k5 [(f,0),(g,0),(k,0),(p,q+Wv aB*3),(ab,ac+Wv aB*3),(ad,ae+Wv aB*3),(jf,0)] (FX s r_ y u z x aa aw a az ax a0 ay a1 ai bZ am aj an ak al bc cF bf bd bg be bh a5 dP a8 a6 a9 a7 ba ao cX ar ap au aq av) (Iq d aC e b7) aax)=>hK _ _ (Ay.unset 6 rfl (by kernel_rfl) ou.plOk) (Cf (e':=[(f,0),(g,0),(k,0),(p,q+Wv aB*3),(ab,ac+Wv aB*3),(ad,ae+Wv aB*3),(jf,0)]) (pl':=(FX s r_ y u z x aa aw a az ax a0 ay a1 ai bZ am aj an ak al bc cF bf bd bg be bh a5 dP a8 a6 a9 a7 ba ao cX ar ap au aq av)) (fun _ hp=>hp.unset 6 rfl (by kernel_rfl)) ?_)
          refine Ax [7,6,1,13,8,5,4,3,2,0] (by kernel_rfl) (by rfl) (pg jf gk gq gl gr gm gs cy c1 cz c2 c0 c3 _ _ ?_)
          exact XY _ ⟨_,rfl,sf.kp,ou,XU bv (XU bl bk),pc,pd,pe,fq,fs,ft⟩
        ·
         refine JF 6 UE nz j4 fun jg zh aay (sg:Kn 199 [(f,0),(g,0),(k,0),(p,q+Wv aB*3),(ab,ac+Wv aB*3),(ad,ae+Wv aB*3),(jg,0)] ((tP 18 6 0)::(tA 91 (OL di eA du dj dv dk dw))::(tA 86 (UB cy dI c1 cz c2 c0 c3))::(JV stop aV ao cX ar ap au aq av s r_ y u z x aa bL af ag bC l m aB d aC e aE words aF)) zh) (ov:Ah ⟨w,h,A6⟩ nx [(f,0),(g,0),(k,0),(p,q+Wv aB*3),(ab,ac+Wv aB*3),(ad,ae+Wv aB*3),(jg,0)] (FX s r_ y u z x aa aw a az ax a0 ay a1 ai bZ am aj an ak al bc cF bf bd bg be bh a5 dP a8 a6 a9 a7 ba ao cX ar ap au aq av) (Iq d aC e b7) aay)=>hK _ _ (Ay.unset 6 rfl (by kernel_rfl) ov.plOk) (Cf (e':=[(f,0),(g,0),(k,0),(p,q+Wv aB*3),(ab,ac+Wv aB*3),(ad,ae+Wv aB*3),(jg,0)]) (pl':=(FX s r_ y u z x aa aw a az ax a0 ay a1 ai bZ am aj an ak al bc cF bf bd bg be bh a5 dP a8 a6 a9 a7 ba ao cX ar ap au aq av)) (fun _ hp=>hp.unset 6 rfl (by kernel_rfl)) ?_)
         refine Ax [6,1,13,8,5,4,3,2,0] (by kernel_rfl) (by rfl) (ph jg di du dj dv dk dw cy c1 cz c2 c0 c3 _ _ ?_)
         exact XY _ ⟨_,rfl,sg.kp,ov,XU bv bl,kc,kd,ke,fq,fs,ft⟩
       ·
        refine JF 6 UE os kb fun jh zi aaz (sh:Kn 199 [(f,0),(g,0),(k,0),(p,q+Wv aB*3),(ab,ac+Wv aB*3),(ad,ae+Wv aB*3),(jh,0)] ((tP 18 6 0)::(tA 86 (UB cy dI c1 cz c2 c0 c3))::(JV stop aV ao cX ar ap au aq av s r_ y u z x aa bL af ag bC l m aB d aC e aE words aF)) zi) (ow:Ah ⟨w,h,A6⟩ nw [(f,0),(g,0),(k,0),(p,q+Wv aB*3),(ab,ac+Wv aB*3),(ad,ae+Wv aB*3),(jh,0)] (FX s r_ y u z x aa aw a az ax a0 ay a1 ai bZ am aj an ak al bc cF bf bd bg be bh a5 dP a8 a6 a9 a7 ba ao cX ar ap au aq av) (Iq d aC e b7) aaz)=>hK _ _ (Ay.unset 6 rfl (by kernel_rfl) ow.plOk) (Cf (e':=[(f,0),(g,0),(k,0),(p,q+Wv aB*3),(ab,ac+Wv aB*3),(ad,ae+Wv aB*3),(jh,0)]) (pl':=(FX s r_ y u z x aa aw a az ax a0 ay a1 ai bZ am aj an ak al bc cF bf bd bg be bh a5 dP a8 a6 a9 a7 ba ao cX ar ap au aq av)) (fun _ hp=>hp.unset 6 rfl (by kernel_rfl)) ?_)
        refine Ax [1,13,8,5,4,3,2,0] (by kernel_rfl) (by rfl) (pi jh cy c1 cz c2 c0 c3 _ _ ?_)
        exact XY _ ⟨_,rfl,sh.kp,ow,bv,fq,fs,ft⟩
      ·
       refine JF 6 UE n1 l7 fun f1 zk aa0 (si:Kn 199 (DV f g k p q aB ab ac ad ae f1) ((tP 18 6 0)::(JV stop aV ao cX ar ap au aq av s r_ y u z x aa bL af ag bC l m aB d aC e aE words aF)) zk) (lw:Ah ⟨w,h,A6⟩ f8 (DV f g k p q aB ab ac ad ae f1) (FX s r_ y u z x aa aw a az ax a0 ay a1 ai bZ am aj an ak al bc cF bf bd bg be bh a5 dP a8 a6 a9 a7 ba ao cX ar ap au aq av) (Iq d aC e b7) aa0)=>hK _ _ (Ay.unset 6 rfl (by kernel_rfl) lw.plOk) (Cf (e':=(DV f g k p q aB ab ac ad ae f1)) (pl':=(FX s r_ y u z x aa aw a az ax a0 ay a1 ai bZ am aj an ak al bc cF bf bd bg be bh a5 dP a8 a6 a9 a7 ba ao cX ar ap au aq av)) (fun _ hp=>hp.unset 6 rfl (by kernel_rfl)) ?_)
       refine Dl 1 fun K hK=>?_
       refine wc [.agg (UB s r_ y u z x aa)] si lw (Fa bj lw.has r_ ((Ab (Ad a2) (Ab (Ab Ac Ac) (Ab (Ad a3) (Ab (Ad a4) (Ab Ac (Ab Ac (Ab Ac Ac))))))):rep f8 r_ _) jM) fun adj abc aeh p9 v4 ox=>?_
       obtain⟨_,rfl,⟨_,_,rfl,⟨ki,ku,rfl,w5⟩,⟨_,_,rfl,⟨_,_,rfl,rfl,rfl⟩,⟨_,_,rfl,⟨kj,kv,rfl,w6⟩,⟨_,_,rfl,⟨kk,kw,rfl,w7⟩,⟨_,_,rfl,rfl,⟨_,_,rfl,rfl,⟨_,_,rfl,rfl,rfl⟩⟩⟩⟩⟩⟩⟩⟩:=p9
       refine⟨.one (.agg (Wp dI ki ku kj kv kk kw)),rfl,fun zl (sk:Kn 199 (DV f g k p q aB ab ac ad ae f1) ((tA 86 (Wp dI ki ku kj kv kk kw))::(tP 18 6 0)::(JV stop aV ao cX ar ap au aq av s r_ y u z x aa bL af ag bC l m aB d aC e aE words aF)) zl)=>hK _ _ ox.plOk ?_⟩
       refine Ax [1,13,8,5,4,3,2,0] (by kernel_rfl) (by rfl) (pi f1 ki ku kj kv kk kw _ _ ?_)
       exact XY _ ⟨_,rfl,sk.kp,ox,v4,w5,w6,w7⟩
     ·
      rw [lc,XV] at bb
      refine wp_exit ?_
      exact XY aC ⟨d,e,b7,k4,_,_,rfl,lm.kp,gf,dc,b8,bb⟩
   ·
    rintro _ aej ⟨kg,np,ns,nk,nt,na,jx,rfl,sl,oy,abl,abk,H⟩
    rw [p3] at H
    refine XT (Aa ?_)
    obtain⟨iU,ex198,H⟩:=H
    refine wl fun K hK=>?_
    refine wc [] sl oy (LQ n oy.has  ex198) fun adk abd aek qa abm oz=>?_
    obtain rfl:=qa
    refine⟨.one (.c (.bool iU)),rfl,fun zm (sm:Kn 199 [(f,0),(g,0),(k,0)] [tB 198 iU] zm)=>hK _ _ ?_⟩
    refine Rk 1 1 [tB 8 iU] sm oz fun abq sn=>?_
    refine wf (wp_ret ?_)
    exact rt (.one (.c (.bool iU))) sn oz ⟨_,H,rfl⟩
end Go.Proofs.YtokchpjijlebiaaGreat
