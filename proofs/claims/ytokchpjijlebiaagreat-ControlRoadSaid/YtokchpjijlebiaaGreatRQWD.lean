/- Each call computes its plain function. -/
import Derived.Test.YtokchpjijlebiaaGreatProg
import Derived.Test.YtokchpjijlebiaaGreatRQWB
set_option linter.all false
namespace Go.Proofs.YtokchpjijlebiaaGreat
open Go Go.RowKit
set_option maxRecDepth 100000
set_option maxHeartbeats 4000000
open Rep (rep)
open KRep (kv)
open VRep (rv)
theorem QO (n:Nat) {h:Ae} {w:World} (hh:Dk h w) (a:An) {cS:Wx} (dN:rep h a cS) (t_:Ap) {cI:Wx} (dF:rep h t_ cI) {r:Bool} (H:Kg n a t_=some r) :
  Calls Tryz.prog 15 #[.agg cS.toArray,.agg cI.toArray] w (Dq (fun h v=>v=.bool r) h w):=by
 obtain⟨_,_,rfl,⟨l,y,rfl,bc⟩,⟨_,_,rfl,⟨q,z,rfl,bd⟩,⟨s,aa,rfl,be⟩⟩⟩:=dN
 obtain⟨_,_,rfl,⟨m,u,rfl,ba⟩,⟨_,_,rfl,⟨p,x,rfl,bb⟩,⟨i,k,rfl,ak⟩⟩⟩:=dF
 refine enter 58 [.agg (OL l a y q z s aa),.agg (Ie m t_ u p x i k)] Tryz.func15 rfl rfl rfl rfl fun t hk=>?_
 have hm:=Ah.begin h w hh
 unfold Kg at H
 refine XT (Aa (wl fun K hK=>?_))
 refine wb (.agg (OL l a y q z s aa)) hk hm fun d cv df (b9:Kn 58 [(d,0)] [tP 2 0 0,tA 0 (OL l a y q z s aa),tA 1 (Ie m t_ u p x i k)] cv) co=>hK _ _ ?_
 refine wl fun K hK=>?_
 refine wb (.agg (Ie m t_ u p x i k)) b9 co fun e cw dg (ca:Kn 58 [(d,0),(e,0)] [tP 3 1 0,tP 2 0 0,tA 0 (OL l a y q z s aa),tA 1 (Ie m t_ u p x i k)] cw) aw=>hK _ _ ?_
 refine Rk 2 1 EO ca aw fun c7 cb=>?_
 refine wf (XT (XT (Aa (Rk 0 1 ((tI 5 0)::EO) cb aw fun c8 cc=>?_))))
 refine wf ?_
 obtain⟨bf,a3,H⟩:=Av H
 refine A0 (fun a' w'=>∃ (bi:Unit)(az:Array Value)(an:Ae),a' = ⟨az,[]⟩∧Kn 58 [(d,0),(e,0)] EO az∧Ah ⟨w,h,A6⟩ an [(d,0),(e,0)] [⟨OL l a y q z s aa,some 32⟩,⟨Ie m t_ u p x i k,some 38⟩] [] w'∧Ae.le h an∧bf=.go bi) ?_ ?_
 ·
  refine wp_block ?_
  refine Au (fun cu a' w'=>∃ (aA:Int)(a0:Array Value)(am:Ae),a' = ⟨a0,[]⟩∧Kn 58 [(d,0),(e,0)] ((tI 5 aA)::EO) a0∧Ah ⟨w,h,A6⟩ am [(d,0),(e,0)] [⟨OL l a y q z s aa,some 32⟩,⟨Ie m t_ u p x i k,some 38⟩] [] w'∧Ae.le h am∧EU cu t_ aA=some bf) n ?_ ?_
  ·
   exact XY 0 ⟨_,_,rfl,cc.kp,aw,Ae.le_refl _,a3⟩
  ·
   rintro ay _ dh ⟨aA,a0,am,rfl,cd,ai,ab,g⟩
   clear a3
   obtain _ | ay:=ay
   ·
    rw [EU] at g; cases g
   rw [EU] at g
   replace bc:=bc.mono ab
   replace bd:=bd.mono ab
   replace be:=be.mono ab
   replace ba:=ba.mono ab
   replace bb:=bb.mono ab
   replace ak:=ak.mono ab
   refine XT (XT ?_)
   obtain⟨bg,al,g⟩:=Av g
   refine A0 (fun a' w'=>∃ (a1:Array Value)(ao:Ae),a' = ⟨a1,[]⟩∧Kn 58 [(d,0),(e,0)] [tI 5 aA,tP 3 1 0,tP 2 0 0,tB 14 bg] a1∧Ah ⟨w,h,A6⟩ ao [(d,0),(e,0)] [⟨OL l a y q z s aa,some 32⟩,⟨Ie m t_ u p x i k,some 38⟩] [] w'∧Ae.le am ao) ?_ ?_
   ·
    refine Aa (Rk 0 6 ((tB 11 (decide (aA<((t_.lA.length:Nat):Int))))::(tI 5 aA)::EO) cd ai fun bm a7=>?_)
    rcases Xb (decide (aA<((t_.lA.length:Nat):Int))) with af | af
    ·
     rw [af,XW] at al
     have ce:Kn 58 [(d,0),(e,0)] ((tB 11 true)::(tI 5 aA)::EO) bm:=(a7.setB 11 true (by rfl) af).kp
     refine Rk 6 3 ((tB 14 (decide (aA<9)))::(tI 5 aA)::EO) ce ai fun c9 cf=>?_
     refine wf ?_
     obtain rfl:=XZ al
     exact XY _ ⟨_,rfl,cf.kp,ai,Ae.le_refl _⟩
    ·
     rw [af,XV] at al
     have cg:Kn 58 [(d,0),(e,0)] ((tB 11 false)::(tI 5 aA)::EO) bm:=(a7.setB 11 false (by rfl) af).kp
     refine Rk 6 3 ((tB 14 false)::(tI 5 aA)::EO) cg ai fun da ch=>?_
     refine wf ?_
     obtain rfl:=XZ al
     exact XY _ ⟨_,rfl,ch.kp,ai,Ae.le_refl _⟩
   ·
    rintro _ di ⟨a1,ao,rfl,ar,ax,av⟩
    replace ak:=ak.mono av
    refine wC (bg) ar (fun ap=>?_) (fun ap=>?_)
    ·
     rw [ap,XW] at g
     refine wp_skip (XT (wp_block (XT (Aa (Rk 0 3 ((tI 19 aA)::(tS 18 i t_.lA.length k)::(tI 5 aA)::EO) ar ax fun db ci=>?_)))))
     obtain⟨dE,kH,g⟩:=Av g
     obtain⟨cp,cq,ct⟩:=Ai kH
     obtain⟨a2,bh,cy,br,cr,bs⟩:=ak.get (by decide) ct
     obtain⟨bp,bq,rfl,c0⟩:=cr
     have aj:=ax.addPlc (b:=a2) (o:=bh+Wv aA*1) (cs:=[Wu bp dE.length bq]) (fun j c hj=>bs j _ (Ak hj)) rfl (by kernel_rfl) (by kernel_rfl)
     refine Bl 3 (aA) rfl rfl (rfl) rfl (by decide) ci (by rfl) (by rfl) (by rfl) br (by rfl) cp cq (by kernel_rfl) fun cx (cj:Kn 58 [(d,0),(e,0),(a2,bh+Wv aA*1)] ((tP 20 2 0)::(tI 19 aA)::(tS 18 i t_.lA.length k)::(tI 5 aA)::EO) cx)=>?_
     refine Rk 4 3 ((tB 23 (decide (((dE.length:Nat):Int)>10)))::(tI 5 aA)::EO) cj aj fun dc au=>?_
     refine wf (wC (decide (((dE.length:Nat):Int)>10)) au (fun aq=>?_) (fun aq=>?_))
     ·
      rw [aq,XW] at g
      refine XT (Aa (Rk 0 1 [tB 4 false] au aj fun dd ck=>?_))
      refine wf (wp_ret ?_)
      obtain rfl:=XZ g
      obtain rfl:=XZ H
      exact rt (.one (.c (.bool false))) ck aj rfl
     ·
      rw [aq,XV] at g
      refine wp_skip (Aa (Rk 0 3 ((tI 5 (Wt (aA+1)))::EO) au aj fun de cl=>?_))
      refine wf ?_
      exact XY ay ⟨Xc _,XY (Wt (aA+1)) ⟨_,_,rfl,(cl.keep [5,3,2] (by rfl)).cut 2 (by kernel_rfl),aj.cutPl 2 (by kernel_rfl),XU ab av,g⟩⟩
    ·
     rw [ap,XV] at g
     refine wp_exit ?_
     obtain rfl:=XZ g
     exact XY () ⟨_,_,rfl,ar.kp,ax,XU ab av,rfl⟩
 ·
  rintro _ dj ⟨bi,az,an,rfl,cm,f,cz,rfl⟩
  rw [Ex.bind_go] at H
  refine XT (Aa (Rk 0 5 ((tB 28 (decide (((a.lD.length:Nat):Int)≤8)))::EO) cm f fun bn a8=>?_))
  rcases Xb (decide (((a.lD.length:Nat):Int)≤8)) with ag | ag
  ·
   rw [ag,XW] at H
   have cn:Kn 58 [(d,0),(e,0)] ((tB 28 true)::EO) bn:=(a8.setB 28 true (by rfl) ag).kp
   refine Rk 5 6 ((tB 34 (decide (((a.lE.length:Nat):Int)≤8)))::EO) cn f fun bo a9=>?_
   rcases Xb (decide (((a.lE.length:Nat):Int)≤8)) with ah | ah
   ·
    rw [ah,XW] at H
    have bt:Kn 58 [(d,0),(e,0)] ((tB 34 true)::EO) bo:=(a9.setB 34 true (by rfl) ah).kp
    refine Rk 11 6 [tB 40 (decide (((a.lC.length:Nat):Int)≤8)),tP 3 1 0] bt f fun bj a4=>?_
    rcases Xb (decide (((a.lC.length:Nat):Int)≤8)) with ac | ac
    ·
     rw [ac,XW] at H
     have bu:Kn 58 [(d,0),(e,0)] [tB 40 true,tP 3 1 0] bj:=(a4.setB 40 true (by rfl) ac).kp
     refine Rk 17 6 [tB 46 (decide (((t_.tm.length:Nat):Int)≤8)),tP 3 1 0] bu f fun bk a5=>?_
     rcases Xb (decide (((t_.tm.length:Nat):Int)≤8)) with ad | ad
     ·
      rw [ad,XW] at H
      have bv:Kn 58 [(d,0),(e,0)] [tB 46 true,tP 3 1 0] bk:=(a5.setB 46 true (by rfl) ad).kp
      refine Rk 23 6 [tB 52 (decide (((t_.lE.length:Nat):Int)≤8)),tP 3 1 0] bv f fun bl a6=>?_
      rcases Xb (decide (((t_.lE.length:Nat):Int)≤8)) with ae | ae
      ·
       rw [ae,XW] at H
       have bw:Kn 58 [(d,0),(e,0)] [tB 52 true,tP 3 1 0] bl:=(a6.setB 52 true (by rfl) ae).kp
       refine Rk 29 6 [tB 4 (decide (((t_.lA.length:Nat):Int)≤8))] bw f fun c1 bx=>?_
       refine wf (wp_ret ?_)
       obtain rfl:=XZ H
       exact rt (.one (.c (.bool (decide (((t_.lA.length:Nat):Int)≤8))))) bx f rfl
      ·
       rw [ae,XV] at H
       have bz:Kn 58 [(d,0),(e,0)] [tB 52 false,tP 3 1 0] bl:=(a6.setB 52 false (by rfl) ae).kp
       refine Rk 29 6 [tB 4 false] bz f fun c2 b0=>?_
       refine wf (wp_ret ?_)
       obtain rfl:=XZ H
       exact rt (.one (.c (.bool false))) b0 f rfl
     ·
      rw [ad,XV] at H
      have b1:Kn 58 [(d,0),(e,0)] [tB 46 false,tP 3 1 0] bk:=(a5.setB 46 false (by rfl) ad).kp
      refine Rk 23 12 [tB 4 false] b1 f fun c3 b2=>?_
      refine wf (wp_ret ?_)
      obtain rfl:=XZ H
      exact rt (.one (.c (.bool false))) b2 f rfl
    ·
     rw [ac,XV] at H
     have b3:Kn 58 [(d,0),(e,0)] [tB 40 false,tP 3 1 0] bj:=(a4.setB 40 false (by rfl) ac).kp
     refine Rk 17 18 [tB 4 false] b3 f fun c4 b4=>?_
     refine wf (wp_ret ?_)
     obtain rfl:=XZ H
     exact rt (.one (.c (.bool false))) b4 f rfl
   ·
    rw [ah,XV] at H
    have b5:Kn 58 [(d,0),(e,0)] ((tB 34 false)::EO) bo:=(a9.setB 34 false (by rfl) ah).kp
    refine Rk 11 24 [tB 4 false] b5 f fun c5 b6=>?_
    refine wf (wp_ret ?_)
    obtain rfl:=XZ H
    exact rt (.one (.c (.bool false))) b6 f rfl
  ·
   rw [ag,XV] at H
   have b7:Kn 58 [(d,0),(e,0)] ((tB 28 false)::EO) bn:=(a8.setB 28 false (by rfl) ag).kp
   refine Rk 5 30 [tB 4 false] b7 f fun c6 b8=>?_
   refine wf (wp_ret ?_)
   obtain rfl:=XZ H
   exact rt (.one (.c (.bool false))) b8 f rfl
theorem QP (n:Nat) {h:Ae} {w:World} (hh:Dk h w) (r_:Af) {aP:Wx} (aW:rep h r_ aP) (a:An) {cS:Wx} (dN:rep h a cS) {r:Int} (H:Kh n r_ a=some r) :
  Calls Tryz.prog 18 #[.agg aP.toArray,.agg cS.toArray] w (Dq (fun h v=>v=.int .i64 r) h w):=by
 obtain⟨_,_,rfl,⟨b,f,rfl,z⟩,⟨_,_,rfl,⟨_,_,rfl,rfl,rfl⟩,⟨_,_,rfl,⟨d,g,rfl,aa⟩,⟨_,_,rfl,⟨e,i,rfl,ab⟩,⟨_,_,rfl,rfl,⟨_,_,rfl,rfl,⟨_,_,rfl,rfl,rfl⟩⟩⟩⟩⟩⟩⟩:=aW
 obtain⟨_,_,rfl,⟨j,m,rfl,ah⟩,⟨_,_,rfl,⟨k,o,rfl,ai⟩,⟨l,p,rfl,aj⟩⟩⟩:=dN
 refine enter 15 [.agg (UB b r_ f d g e i),.agg (OL j a m k o l p)] Tryz.func18 rfl rfl rfl rfl fun t hk=>?_
 have hm:=Ah.begin h w hh
 unfold Kh at H
 refine XT (Aa (wl fun K hK=>?_))
 refine wb (.agg (UB b r_ f d g e i)) hk hm fun x a1 bi (an:Kn 15 [(x,0)] [tP 2 0 0,tA 0 (UB b r_ f d g e i),tA 1 (OL j a m k o l p)] a1) a0=>hK _ _ ?_
 refine wl fun K hK=>?_
 refine wb (.agg (OL j a m k o l p)) an a0 fun ac a2 bj (ao:Kn 15 [(x,0),(ac,0)] [tP 3 1 0,tP 2 0 0,tA 0 (UB b r_ f d g e i),tA 1 (OL j a m k o l p)] a2) y=>hK _ _ ?_
 refine Rk 2 1 [tP 3 1 0,tP 2 0 0] ao y fun a7 ap=>?_
 refine wf (XT (XT (Aa (Rk 0 1 [tA 6 (UB b r_ f d g e i),tP 3 1 0,tP 2 0 0] ap y fun a8 aq=>?_))))
 obtain⟨x7,fL,H⟩:=Av H
 refine wl fun K hK=>?_
 refine wc [.agg (UB b r_ f d g e i)] aq y (QM n y.has r_ ((Ab (Ad z) (Ab (Ab Ac Ac) (Ab (Ad aa) (Ab (Ad ab) (Ab Ac (Ab Ac (Ab Ac Ac))))))):rep h r_ _) fL) fun bg ak bk al s q=>?_
 replace z:=z.mono s
 replace aa:=aa.mono s
 replace ab:=ab.mono s
 replace ah:=ah.mono s
 replace ai:=ai.mono s
 replace aj:=aj.mono s
 obtain rfl:=al
 refine⟨.one (.c (Ws x7)),rfl,fun a3 (ar:Kn 15 [(x,0),(ac,0)] [tI 7 x7,tA 6 (UB b r_ f d g e i),tP 3 1 0,tP 2 0 0] a3)=>hK _ _ ?_⟩
 refine Rk 2 1 [tI 5 x7,tP 3 1 0,tP 2 0 0] ar q fun a9 au=>?_
 refine wf (XT (Aa (Rk 0 2 [tB 9 (x7 != 0),tI 5 x7,tP 3 1 0,tP 2 0 0] au q fun ba af=>?_)))
 refine wf (wC ((x7 != 0)) af (fun ad=>?_) (fun ad=>?_))
 ·
  rw [ad,XW] at H
  refine XT (Aa (Rk 0 2 [tI 4 x7] af q fun bb av=>?_))
  refine wf (wp_ret ?_)
  obtain rfl:=XZ H
  exact rt (.one (.c (Ws x7))) av q rfl
 ·
  rw [ad,XV] at H
  refine wp_skip (XT (XT (Aa (Rk 0 2 [tA 12 (OL j a m k o l p),tA 11 (UB b r_ f d g e i)] af q fun bc aw=>?_))))
  obtain⟨iJ,kO,H⟩:=Av H
  refine wl fun K hK=>?_
  refine wc [.agg (UB b r_ f d g e i),.agg (OL j a m k o l p)] aw q (ON n q.has r_ ((Ab (Ad z) (Ab (Ab Ac Ac) (Ab (Ad aa) (Ab (Ad ab) (Ab Ac (Ab Ac (Ab Ac Ac))))))):rep ak r_ _) a ((Ab (Ad ah) (Ab (Ad ai) (Ad aj))):rep ak a _) kO) fun bh a5 bl am a6 u=>?_
  obtain rfl:=am
  refine⟨.one (.c (.bool iJ)),rfl,fun a4 (ax:Kn 15 [(x,0),(ac,0)] [tB 13 iJ,tA 12 (OL j a m k o l p),tA 11 (UB b r_ f d g e i)] a4)=>hK _ _ ?_⟩
  refine Rk 3 1 [tB 14 (!iJ)] ax u fun bd ag=>?_
  refine wf (wC ((!iJ)) ag (fun ae=>?_) (fun ae=>?_))
  ·
   rw [ae,XW] at H
   refine XT (Aa (Rk 0 1 [tI 4 2] ag u fun be ay=>?_))
   refine wf (wp_ret ?_)
   obtain rfl:=XZ H
   exact rt (.one (.c (Ws 2))) ay u rfl
  ·
   rw [ae,XV] at H
   refine wp_skip (XT (Aa (Rk 0 1 [tI 4 0] ag u fun bf az=>?_)))
   refine wf (wp_ret ?_)
   obtain rfl:=XZ H
   exact rt (.one (.c (Ws 0))) az u rfl
theorem QQ (n:Nat) {h:Ae} {w:World} (hh:Dk h w) (r_:Af) {aP:Wx} (aW:rep h r_ aP) (a:An) {cS:Wx} (dN:rep h a cS) {r:Bool} (H:HW n r_ a=some r) :
  Calls Tryz.prog 6 #[.agg aP.toArray,.agg cS.toArray] w (Dq (fun h v=>v=.bool r) h w):=by
 obtain⟨_,_,rfl,⟨b,m,rfl,ad⟩,⟨_,_,rfl,⟨_,_,rfl,rfl,rfl⟩,⟨_,_,rfl,⟨g,o,rfl,ae⟩,⟨_,_,rfl,⟨i,p,rfl,af⟩,⟨_,_,rfl,rfl,⟨_,_,rfl,rfl,⟨_,_,rfl,rfl,rfl⟩⟩⟩⟩⟩⟩⟩:=aW
 obtain⟨_,_,rfl,⟨d,j,rfl,aa⟩,⟨_,_,rfl,⟨e,k,rfl,ab⟩,⟨f,l,rfl,ac⟩⟩⟩:=dN
 refine enter 18 [.agg (UB b r_ m g o i p),.agg (OL d a j e k f l)] Tryz.func6 rfl rfl rfl rfl fun t hk=>?_
 have hm:=Ah.begin h w hh
 unfold HW at H
 refine XT (Aa (wl fun K hK=>?_))
 refine wb (.agg (UB b r_ m g o i p)) hk hm fun q bc bt (ax:Kn 18 [(q,0)] [tP 2 0 0,tA 0 (UB b r_ m g o i p),tA 1 (OL d a j e k f l)] bc) bb=>hK _ _ ?_
 refine wl fun K hK=>?_
 refine wb (.agg (OL d a j e k f l)) ax bb fun s bd bu (ay:Kn 18 [(q,0),(s,0)] [tP 3 1 0,tP 2 0 0,tA 0 (UB b r_ m g o i p),tA 1 (OL d a j e k f l)] bd) ai=>hK _ _ ?_
 refine Rk 2 1 EO ay ai fun bj az=>?_
 refine wf (XT (Aa (Rk 0 1 ((tA 5 (UB b r_ m g o i p))::EO) az ai fun bk a0=>?_)))
 obtain⟨x6,kP,H⟩:=Av H
 refine wl fun K hK=>?_
 refine wc [.agg (UB b r_ m g o i p)] a0 ai (RL n ai.has r_ ((Ab (Ad ad) (Ab (Ab Ac Ac) (Ab (Ad ae) (Ab (Ad af) (Ab Ac (Ab Ac (Ab Ac Ac))))))):rep h r_ _) kP) fun bq aj bv au u y=>?_
 replace ad:=ad.mono u
 replace ae:=ae.mono u
 replace af:=af.mono u
 replace aa:=aa.mono u
 replace ab:=ab.mono u
 replace ac:=ac.mono u
 obtain rfl:=au
 refine⟨.one (.c (.bool x6)),rfl,fun be (a1:Kn 18 [(q,0),(s,0)] ((tB 6 x6)::(tA 5 (UB b r_ m g o i p))::EO) be)=>hK _ _ ?_⟩
 refine Rk 2 1 ((tB 7 x6)::EO) a1 y fun aq al=>?_
 rcases Xb (x6) with ag | ag
 ·
  rw [ag,XW] at H
  have a2:Kn 18 [(q,0),(s,0)] ((tB 7 true)::EO) aq:=(al.setB 7 true (by rfl) ag).kp
  refine Rk 3 2 ((tA 9 UE)::(tA 8 (OL d a j e k f l))::(tB 7 true)::EO) a2 y fun bl am=>?_
  obtain⟨bP,dS,H⟩:=Av H
  refine Bi _ rfl (Aj am (by kernel_rfl)) fun K hK=>?_
  refine wc [.agg (OL d a j e k f l),.agg UE] am y (QO n y.has a ((Ab (Ad aa) (Ab (Ad ab) (Ad ac))):rep aj a _) (Ap.mk ([]:List Int) ([]:List Int) ([]:List (List Int))) ((Ab (Ad A4.nil) (Ab (Ad A4.nil) (Ad A4.nil))):rep aj (Ap.mk ([]:List Int) ([]:List Int) ([]:List (List Int))) _) dS) fun br ak bw av x z=>?_
  replace ad:=ad.mono x
  replace ae:=ae.mono x
  replace af:=af.mono x
  replace aa:=aa.mono x
  replace ab:=ab.mono x
  replace ac:=ac.mono x
  obtain rfl:=av
  refine⟨.one (.c (.bool bP)),rfl,fun bf (a3:Kn 18 [(q,0),(s,0)] ((tB 10 bP)::(tA 9 UE)::(tA 8 (OL d a j e k f l))::(tB 7 true)::EO) bf)=>hK _ _ ?_⟩
  refine Rk 6 2 ((tB 12 bP)::EO) a3 z fun ar an=>?_
  rcases Xb (bP) with ah | ah
  ·
   rw [ah,XW] at H
   have a4:Kn 18 [(q,0),(s,0)] ((tB 12 true)::EO) ar:=(an.setB 12 true (by rfl) ah).kp
   refine Rk 8 2 [tA 14 (OL d a j e k f l),tA 13 (UB b r_ m g o i p),tB 12 true] a4 z fun bm ao=>?_
   obtain⟨cP,jE,H⟩:=Av H
   refine Bi _ rfl (Aj ao (by kernel_rfl)) fun K hK=>?_
   refine wc [.agg (UB b r_ m g o i p),.agg (OL d a j e k f l)] ao z (QP n z.has r_ ((Ab (Ad ad) (Ab (Ab Ac Ac) (Ab (Ad ae) (Ab (Ad af) (Ab Ac (Ab Ac (Ab Ac Ac))))))):rep ak r_ _) a ((Ab (Ad aa) (Ab (Ad ab) (Ad ac))):rep ak a _) jE) fun bs bh bx aw bi ap=>?_
   obtain rfl:=aw
   refine⟨.one (.c (Ws cP)),rfl,fun bg (a5:Kn 18 [(q,0),(s,0)] [tI 15 cP,tA 14 (OL d a j e k f l),tA 13 (UB b r_ m g o i p),tB 12 true] bg)=>hK _ _ ?_⟩
   refine Rk 11 3 [tB 4 (cP == 0)] a5 ap fun bn a6=>?_
   refine wf (wp_ret ?_)
   obtain rfl:=XZ H
   exact rt (.one (.c (.bool (cP == 0)))) a6 ap rfl
  ·
   rw [ah,XV] at H
   have a7:Kn 18 [(q,0),(s,0)] ((tB 12 false)::EO) ar:=(an.setB 12 false (by rfl) ah).kp
   refine Rk 8 6 [tB 4 false] a7 z fun bo a8=>?_
   refine wf (wp_ret ?_)
   obtain rfl:=XZ H
   exact rt (.one (.c (.bool false))) a8 z rfl
 ·
  rw [ag,XV] at H
  have a9:Kn 18 [(q,0),(s,0)] ((tB 7 false)::EO) aq:=(al.setB 7 false (by rfl) ag).kp
  refine Rk 3 11 [tB 4 false] a9 y fun bp ba=>?_
  refine wf (wp_ret ?_)
  obtain rfl:=XZ H
  exact rt (.one (.c (.bool false))) ba y rfl
theorem H6 (n:Nat) {h:Ae} {w:World} (hh:Dk h w) (r_:Rg) {aP:Wx} (aW:rep h r_ aP) (words:List (IK .u16)) {aE:Ww} {aF:Nat} (aY:A4 h aE aF words) (at_:Int) {r:Int} (H:Hj n r_ words at_=some r) :
  Calls Tryz.prog 34 #[.agg aP.toArray,.slice aE words.length aF,.int .i64 at_] w (Dq (fun h v=>v=.int .i64 r) h w):=by
 obtain⟨_,_,rfl,rfl,rfl⟩:=aW
 refine enter 42 [.agg [Ws r_.lo,Ws r_.hi],.c (Wu aE words.length aF),.c (Ws at_)] Tryz.func34 rfl rfl rfl rfl fun t hk=>?_
 have hm:=Ah.begin h w hh
 unfold Hj at H
 refine XT (Aa (wl fun K hK=>?_))
 refine wb (.agg [Ws r_.lo,Ws r_.hi]) hk hm fun e ap a7 (ae:Kn 42 [(e,0)] [tP 3 0 0,tA 0 [Ws r_.lo,Ws r_.hi],tS 1 aE words.length aF,tI 2 at_] ap) d=>hK _ _ ?_
 refine Rk 1 1 [tP 3 0 0,tS 1 aE words.length aF,tI 2 at_] ae d fun a5 aj=>?_
 refine wf (XT (XT (Aa (Rk 0 3 [tB 10 (((words.length:Nat):Int) == 0),tP 3 0 0,tS 1 aE words.length aF,tI 2 at_] aj d fun a6 q=>?_))))
 refine wf (wC ((((words.length:Nat):Int) == 0)) q (fun i=>?_) (fun i=>?_))
 ·
  rw [i,XW] at H
  refine XT (Aa (Rk 0 3 [tI 6 r_.hi] q d fun av x=>?_))
  refine wf (wp_ret ?_)
  obtain rfl:=XZ H
  exact rt (.one (.c (Ws r_.hi))) x d rfl
 ·
  rw [i,XV] at H
  refine wp_skip (XT (Aa (Rk 0 4 [tI 16 ((words.length:Nat):Int),tI 14 at_,tS 13 aE words.length aF,tP 3 0 0] q d fun aw y=>?_)))
  obtain⟨bM,eU,H⟩:=Av H
  refine V3 4 y rfl rfl (rfl) rfl (by decide) (by rfl) (by rfl) (QA eU) fun ao (z:Kn 42 [(e,0)] [tI 17 (Int.tmod at_ ((words.length:Nat):Int)),tI 16 ((words.length:Nat):Int),tI 14 at_,tS 13 aE words.length aF,tP 3 0 0] ao)=>?_
  obtain⟨cG,jF,H⟩:=Av H
  obtain⟨ak,al,an⟩:=Ai jF
  obtain⟨f,g,au,s,am,u⟩:=aY.get (by decide) an
  obtain rfl:=am
  have a:=d.addPlc (b:=f) (o:=g+(Int.tmod at_ ((words.length:Nat):Int):Int).toNat*1) (cs:=[.int .u16 cG.n]) (fun j c hj=>u j _ (Ak hj)) rfl (by kernel_rfl) (by kernel_rfl)
  refine Bl 5 (Int.tmod at_ ((words.length:Nat):Int)) rfl rfl (rfl) rfl (by decide) z (by rfl) (by rfl) (by rfl) s (by rfl) ak al (by kernel_rfl) fun aq (aa:Kn 42 [(e,0),(f,g+(Int.tmod at_ ((words.length:Nat):Int):Int).toNat*1)] [tP 18 1 0,tI 17 (Int.tmod at_ ((words.length:Nat):Int)),tI 16 ((words.length:Nat):Int),tI 14 at_,tS 13 aE words.length aF,tP 3 0 0] aq)=>?_
  refine Rk 6 3 [tI 7 (Wt cG.n),tP 3 0 0] aa a fun ax ab=>?_
  refine wf (XT (XT (Aa (Rk 0 2 [tI 22 (Int.tmod (Wt cG.n) 4),tI 7 (Wt cG.n),tP 3 0 0] ab a fun ay ac=>?_))))
  refine wf (wp_block (XT (Aa (Rk 0 2 [tB 23 ((Int.tmod (Wt cG.n) 4) == 0),tI 22 (Int.tmod (Wt cG.n) 4),tI 7 (Wt cG.n),tP 3 0 0] ac a fun az m=>?_))))
  refine wf (wC (((Int.tmod (Wt cG.n) 4) == 0)) m (fun k=>?_) (fun k=>?_))
  ·
   rw [k,XW] at H
   refine XT (Aa (Rk 0 3 [tI 6 r_.lo] m a fun a0 ad=>?_))
   refine wf (wp_ret ?_)
   obtain rfl:=XZ H
   exact rt (.one (.c (Ws r_.lo))) ad a rfl
  ·
   rw [k,XV] at H
   refine XT (Aa (Rk 0 2 [tB 27 ((Int.tmod (Wt cG.n) 4) == 1),tI 7 (Wt cG.n),tP 3 0 0] m a fun a1 p=>?_))
   refine wf (wC (((Int.tmod (Wt cG.n) 4) == 1)) p (fun l=>?_) (fun l=>?_))
   ·
    rw [l,XW] at H
    refine XT (Aa (Rk 0 3 [tI 6 r_.hi] p a fun a2 af=>?_))
    refine wf (wp_ret ?_)
    obtain rfl:=XZ H
    exact rt (.one (.c (Ws r_.hi))) af a rfl
   ·
    rw [l,XV] at H
    refine wp_skip (XT (Am (by kernel_rfl) ?_))
    replace a:=a.drew
    refine Ao [] [(e,0),(f,g+(Int.tmod at_ ((words.length:Nat):Int):Int).toNat*1)] [⟨[Ws r_.lo,Ws r_.hi],some 24⟩,⟨[.int .u16 cG.n],none⟩] ?_
    refine Dr [0,1,2,3,4,5,6,7,8] (dn 8) [tI 39 (Wt ((Wt (r_.hi-r_.lo))+1)),tI 33 (Wt cG.n),tI 32 r_.lo] p a fun a3 ag=>?_
    obtain⟨cJ,gL,H⟩:=Av H
    refine Wh 9 (fun _ _ _ _ _ h=>h) ag rfl rfl (rfl) rfl (by decide) (by kernel_rfl) (by kernel_rfl) a.plOk (by rfl) (by rfl) (QA gL) fun ar (ah:Kn 42 [(e,0),(f,g+(Int.tmod at_ ((words.length:Nat):Int):Int).toNat*1)] [tI 40 (Int.tmod (Wt cG.n) (Wt ((Wt (r_.hi-r_.lo))+1))),tI 39 (Wt ((Wt (r_.hi-r_.lo))+1)),tI 33 (Wt cG.n),tI 32 r_.lo] ar)=>?_
    refine Dr [10,11] (dn 11) [tI 6 (Wt (r_.lo+(Int.tmod (Wt cG.n) (Wt ((Wt (r_.hi-r_.lo))+1)))))] ah a fun a4 ai=>?_
    refine A2 (by kernel_rfl) (wp_ret ?_)
    obtain rfl:=XZ H
    exact rt (.one (.c (Ws (Wt (r_.lo+(Int.tmod (Wt cG.n) (Wt ((Wt (r_.hi-r_.lo))+1)))))))) ai a rfl
end Go.Proofs.YtokchpjijlebiaaGreat
