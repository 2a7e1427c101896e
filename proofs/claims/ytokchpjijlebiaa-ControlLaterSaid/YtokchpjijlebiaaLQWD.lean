/- Each call computes its plain function. -/
import Derived.Test.YtokchpjijlebiaaProg
import Derived.Test.YtokchpjijlebiaaLQP0
import Derived.Test.YtokchpjijlebiaaLQWA
import Derived.Test.YtokchpjijlebiaaLQWB
set_option linter.all false
namespace Go.Proofs.Ytokchpjijlebiaa
open Go Go.RowKit
open Rep (rep)
open KRep (kv)
open VRep (rv)
abbrev NU (l:Option Addr) (a:As) (y:Nat) (q:Option Addr) (z:Nat) (s:Option Addr) (aa:Nat):List SC:=[.slice l a.holds.length y,.slice q a.turns.length z,.slice s a.spares.length aa]
abbrev NV (m:Option Addr) (t_:Av) (u:Nat) (p:Option Addr) (x:Nat) (i:Option Addr) (k:Nat):List SC:=[.slice m t_.tm.length u,.slice p t_.turns.length x,.slice i t_.legs.length k]
abbrev Fi:TM:=[tP 3 1 0,tP 2 0 0]
set_option maxRecDepth 100000 in
set_option maxHeartbeats 4000000 in
theorem PM (n:Nat) {h:Ad} {w:World} (hh:Dk h w) (a:As) {cs_a:List Value} (hx_a:rep h a cs_a) (t_:Av) {cs_t_:List Value} (hx_t_:rep h t_ cs_t_) {r:Bool} (H:J2 n a t_=some r) :
  Calls Try.prog 34 #[.agg cs_a.toArray,.agg cs_t_.toArray] w (Dq (fun h v=>v=.bool r) h w):=by
 obtain⟨_,_,rfl,⟨l,y,rfl,bc⟩,⟨_,_,rfl,⟨q,z,rfl,bd⟩,⟨s,aa,rfl,be⟩⟩⟩:=hx_a
 obtain⟨_,_,rfl,⟨m,u,rfl,ba⟩,⟨_,_,rfl,⟨p,x,rfl,bb⟩,⟨i,k,rfl,ak⟩⟩⟩:=hx_t_
 refine enter 58 [.agg (NU l a y q z s aa),.agg (NV m t_ u p x i k)] Try.func34 rfl rfl rfl rfl fun t hk=>?_
 have hm:=Ah.begin h w hh
 unfold J2 at H
 refine XT (Aa (wl fun K hK=>?_))
 refine wb (.agg (NU l a y q z s aa)) hk hm fun d cv df (b9:Kn 58 [(d,0)] [tP 2 0 0,tA 0 (NU l a y q z s aa),tA 1 (NV m t_ u p x i k)] cv) co=>hK _ _ ?_
 refine wl fun K hK=>?_
 refine wb (.agg (NV m t_ u p x i k)) b9 co fun e cw dg (ca:Kn 58 [(d,0),(e,0)] [tP 3 1 0,tP 2 0 0,tA 0 (NU l a y q z s aa),tA 1 (NV m t_ u p x i k)] cw) aw=>hK _ _ ?_
 refine Rk 2 1 Fi ca aw fun c7 cb=>?_
 refine wf (XT (XT (Aa (Rk 0 1 ((tI 5 0)::Fi) cb aw fun c8 cc=>?_))))
 refine wf ?_
 obtain⟨bf,a3,H⟩:=Ao H
 refine Aw (fun a' w'=>∃ (bi:Unit)(az:Array Value)(an:Ad),a' = ⟨az,[]⟩∧Kn 58 [(d,0),(e,0)] Fi az∧Ah ⟨w,h,A5⟩ an [(d,0),(e,0)] [⟨NU l a y q z s aa,some 50⟩,⟨NV m t_ u p x i k,some 75⟩] [] w'∧Ad.le h an∧bf=.go bi) ?_ ?_
 ·
  refine wp_block ?_
  refine Au (fun cu a' w'=>∃ (x_v10:Int)(a0:Array Value)(am:Ad),a' = ⟨a0,[]⟩∧Kn 58 [(d,0),(e,0)] ((tI 5 x_v10)::Fi) a0∧Ah ⟨w,h,A5⟩ am [(d,0),(e,0)] [⟨NU l a y q z s aa,some 50⟩,⟨NV m t_ u p x i k,some 75⟩] [] w'∧Ad.le h am∧Er cu t_ x_v10=some bf) n ?_ ?_
  ·
   exact XY 0 ⟨_,_,rfl,cc.kp,aw,Ad.le_refl _,a3⟩
  ·
   rintro ay _ dh ⟨x_v10,a0,am,rfl,cd,ai,ab,g⟩
   clear a3
   obtain _ | ay:=ay
   ·
    rw [Er] at g; cases g
   rw [Er] at g
   replace bc:=bc.mono ab
   replace bd:=bd.mono ab
   replace be:=be.mono ab
   replace ba:=ba.mono ab
   replace bb:=bb.mono ab
   replace ak:=ak.mono ab
   refine XT (XT ?_)
   obtain⟨bg,al,g⟩:=Ao g
   refine Aw (fun a' w'=>∃ (a1:Array Value)(ao:Ad),a' = ⟨a1,[]⟩∧Kn 58 [(d,0),(e,0)] [tI 5 x_v10,tP 3 1 0,tP 2 0 0,tB 14 bg] a1∧Ah ⟨w,h,A5⟩ ao [(d,0),(e,0)] [⟨NU l a y q z s aa,some 50⟩,⟨NV m t_ u p x i k,some 75⟩] [] w'∧Ad.le am ao) ?_ ?_
   ·
    refine Aa (Rk 0 6 ((tB 11 (decide (x_v10<((t_.legs.length:Nat):Int))))::(tI 5 x_v10)::Fi) cd ai fun bm a7=>?_)
    rcases Bool.eq_false_or_eq_true (decide (x_v10<((t_.legs.length:Nat):Int))) with af | af
    ·
     rw [af,XW] at al
     have ce:Kn 58 [(d,0),(e,0)] ((tB 11 true)::(tI 5 x_v10)::Fi) bm:=(a7.setB 11 true (by rfl) af).kp
     refine Rk 6 3 ((tB 14 (decide (x_v10<9)))::(tI 5 x_v10)::Fi) ce ai fun c9 cf=>?_
     refine wf ?_
     obtain rfl:=XZ al
     exact XY _ ⟨_,rfl,cf.kp,ai,Ad.le_refl _⟩
    ·
     rw [af,XV] at al
     have cg:Kn 58 [(d,0),(e,0)] ((tB 11 false)::(tI 5 x_v10)::Fi) bm:=(a7.setB 11 false (by rfl) af).kp
     refine Rk 6 3 ((tB 14 false)::(tI 5 x_v10)::Fi) cg ai fun da ch=>?_
     refine wf ?_
     obtain rfl:=XZ al
     exact XY _ ⟨_,rfl,ch.kp,ai,Ad.le_refl _⟩
   ·
    rintro _ di ⟨a1,ao,rfl,ar,ax,av⟩
    replace ak:=ak.mono av
    refine wC (bg) ar (fun ap=>?_) (fun ap=>?_)
    ·
     rw [ap,XW] at g
     refine wp_skip (XT (wp_block (XT (Aa (Rk 0 3 ((tI 19 x_v10)::(tS 18 i t_.legs.length k)::(tI 5 x_v10)::Fi) ar ax fun db ci=>?_)))))
     obtain⟨x20,ex20,g⟩:=Ao g
     obtain⟨cp,cq,ct⟩:=Ai ex20
     obtain⟨a2,bh,cy,br,cr,bs⟩:=ak.get (by decide) ct
     obtain⟨bp,bq,rfl,c0⟩:=cr
     have aj:=ax.addPlc (b:=a2) (o:=bh+(x_v10:Int).toNat*1) (cs:=[.slice bp x20.length bq]) (fun j c hj=>bs j _ (Aj hj)) rfl (by kernel_rfl) (by kernel_rfl)
     refine Bb 3 (x_v10) rfl rfl (rfl) rfl (by decide) ci (by rfl) (by rfl) (by rfl) br (by rfl) cp cq (by kernel_rfl) fun cx (cj:Kn 58 [(d,0),(e,0),(a2,bh+(x_v10:Int).toNat*1)] ((tP 20 2 0)::(tI 19 x_v10)::(tS 18 i t_.legs.length k)::(tI 5 x_v10)::Fi) cx)=>?_
     refine Rk 4 3 ((tB 23 (decide (((x20.length:Nat):Int)>10)))::(tI 5 x_v10)::Fi) cj aj fun dc au=>?_
     refine wf (wC (decide (((x20.length:Nat):Int)>10)) au (fun aq=>?_) (fun aq=>?_))
     ·
      rw [aq,XW] at g
      refine XT (Aa (Rk 0 1 [tB 4 false] au aj fun dd ck=>?_))
      refine wf (wp_ret ?_)
      obtain rfl:=XZ g
      obtain rfl:=XZ H
      exact rt (.one (.c (.bool false))) ck aj rfl
     ·
      rw [aq,XV] at g
      refine wp_skip (Aa (Rk 0 3 ((tI 5 (IntKind.i64.wrap (x_v10+1)))::Fi) au aj fun de cl=>?_))
      refine wf ?_
      exact XY ay ⟨Nat.lt_succ_self _,XY (IntKind.i64.wrap (x_v10+1)) ⟨_,_,rfl,(cl.keep [5,3,2] (by rfl)).cut 2 (by kernel_rfl),aj.cutPl 2 (by kernel_rfl),XU ab av,g⟩⟩
    ·
     rw [ap,XV] at g
     refine wp_exit ?_
     obtain rfl:=XZ g
     exact XY () ⟨_,_,rfl,ar.kp,ax,XU ab av,rfl⟩
 ·
  rintro _ dj ⟨bi,az,an,rfl,cm,f,cz,rfl⟩
  rw [Ex.bind_go] at H
  refine XT (Aa (Rk 0 5 ((tB 28 (decide (((a.holds.length:Nat):Int)≤8)))::Fi) cm f fun bn a8=>?_))
  rcases Bool.eq_false_or_eq_true (decide (((a.holds.length:Nat):Int)≤8)) with ag | ag
  ·
   rw [ag,XW] at H
   have cn:Kn 58 [(d,0),(e,0)] ((tB 28 true)::Fi) bn:=(a8.setB 28 true (by rfl) ag).kp
   refine Rk 5 6 ((tB 34 (decide (((a.turns.length:Nat):Int)≤8)))::Fi) cn f fun bo a9=>?_
   rcases Bool.eq_false_or_eq_true (decide (((a.turns.length:Nat):Int)≤8)) with ah | ah
   ·
    rw [ah,XW] at H
    have bt:Kn 58 [(d,0),(e,0)] ((tB 34 true)::Fi) bo:=(a9.setB 34 true (by rfl) ah).kp
    refine Rk 11 6 [tB 40 (decide (((a.spares.length:Nat):Int)≤8)),tP 3 1 0] bt f fun bj a4=>?_
    rcases Bool.eq_false_or_eq_true (decide (((a.spares.length:Nat):Int)≤8)) with ac | ac
    ·
     rw [ac,XW] at H
     have bu:Kn 58 [(d,0),(e,0)] [tB 40 true,tP 3 1 0] bj:=(a4.setB 40 true (by rfl) ac).kp
     refine Rk 17 6 [tB 46 (decide (((t_.tm.length:Nat):Int)≤8)),tP 3 1 0] bu f fun bk a5=>?_
     rcases Bool.eq_false_or_eq_true (decide (((t_.tm.length:Nat):Int)≤8)) with ad | ad
     ·
      rw [ad,XW] at H
      have bv:Kn 58 [(d,0),(e,0)] [tB 46 true,tP 3 1 0] bk:=(a5.setB 46 true (by rfl) ad).kp
      refine Rk 23 6 [tB 52 (decide (((t_.turns.length:Nat):Int)≤8)),tP 3 1 0] bv f fun bl a6=>?_
      rcases Bool.eq_false_or_eq_true (decide (((t_.turns.length:Nat):Int)≤8)) with ae | ae
      ·
       rw [ae,XW] at H
       have bw:Kn 58 [(d,0),(e,0)] [tB 52 true,tP 3 1 0] bl:=(a6.setB 52 true (by rfl) ae).kp
       refine Rk 29 6 [tB 4 (decide (((t_.legs.length:Nat):Int)≤8))] bw f fun c1 bx=>?_
       refine wf (wp_ret ?_)
       obtain rfl:=XZ H
       exact rt (.one (.c (.bool (decide (((t_.legs.length:Nat):Int)≤8))))) bx f rfl
      ·
       rw [ae,XV] at H
       have bz:Kn 58 [(d,0),(e,0)] [tB 52 false,tP 3 1 0] bl:=(a6.setB 52 false (by rfl) ae).kp
       refine Rk 29 6 [tB 4 false] bz f fun c2 b0=>?_
       refine wf (wp_ret ?_)
       obtain rfl:=XZ H
       exact rt (.one (.c (.bool false))) b0 f rfl
     ·
      rw [ad,XV] at H
      have b1:Kn 58 [(d,0),(e,0)] [tB 46 false,tP 3 1 0] bk:=(a5.setB 46 false (by rfl) ad).kp
      refine Rk 23 12 [tB 4 false] b1 f fun c3 b2=>?_
      refine wf (wp_ret ?_)
      obtain rfl:=XZ H
      exact rt (.one (.c (.bool false))) b2 f rfl
    ·
     rw [ac,XV] at H
     have b3:Kn 58 [(d,0),(e,0)] [tB 40 false,tP 3 1 0] bj:=(a4.setB 40 false (by rfl) ac).kp
     refine Rk 17 18 [tB 4 false] b3 f fun c4 b4=>?_
     refine wf (wp_ret ?_)
     obtain rfl:=XZ H
     exact rt (.one (.c (.bool false))) b4 f rfl
   ·
    rw [ah,XV] at H
    have b5:Kn 58 [(d,0),(e,0)] ((tB 34 false)::Fi) bo:=(a9.setB 34 false (by rfl) ah).kp
    refine Rk 11 24 [tB 4 false] b5 f fun c5 b6=>?_
    refine wf (wp_ret ?_)
    obtain rfl:=XZ H
    exact rt (.one (.c (.bool false))) b6 f rfl
  ·
   rw [ag,XV] at H
   have b7:Kn 58 [(d,0),(e,0)] ((tB 28 false)::Fi) bn:=(a8.setB 28 false (by rfl) ag).kp
   refine Rk 5 30 [tB 4 false] b7 f fun c6 b8=>?_
   refine wf (wp_ret ?_)
   obtain rfl:=XZ H
   exact rt (.one (.c (.bool false))) b8 f rfl
abbrev NW (j:Option Addr) (a:As) (m:Nat) (k:Option Addr) (o:Nat) (l:Option Addr) (p:Nat):List SC:=[.slice j a.holds.length m,.slice k a.turns.length o,.slice l a.spares.length p]
abbrev JS (b:Option Addr) (r_:Af) (f:Nat) (d:Option Addr) (g:Nat) (e:Option Addr) (i:Nat):List SC:=[.slice b r_.legs.length f,.int .i64 r_.turn.lo,.int .i64 r_.turn.hi,.slice d r_.buses.length g,.slice e r_.spares.length i,.int .i64 r_.unit,.int .i64 r_.gap,.int .i64 r_.fr,.int .i64 r_.to_]
set_option maxRecDepth 100000 in
set_option maxHeartbeats 4000000 in
theorem PN (n:Nat) {h:Ad} {w:World} (hh:Dk h w) (r_:Af) {cs_r_:List Value} (hx_r_:rep h r_ cs_r_) (a:As) {cs_a:List Value} (hx_a:rep h a cs_a) {r:Int} (H:J3 n r_ a=some r) :
  Calls Try.prog 36 #[.agg cs_r_.toArray,.agg cs_a.toArray] w (Dq (fun h v=>v=.int .i64 r) h w):=by
 obtain⟨_,_,rfl,⟨b,f,rfl,z⟩,⟨_,_,rfl,⟨_,_,rfl,rfl,rfl⟩,⟨_,_,rfl,⟨d,g,rfl,aa⟩,⟨_,_,rfl,⟨e,i,rfl,ab⟩,⟨_,_,rfl,rfl,⟨_,_,rfl,rfl,⟨_,_,rfl,rfl,rfl⟩⟩⟩⟩⟩⟩⟩:=hx_r_
 obtain⟨_,_,rfl,⟨j,m,rfl,ah⟩,⟨_,_,rfl,⟨k,o,rfl,ai⟩,⟨l,p,rfl,aj⟩⟩⟩:=hx_a
 refine enter 15 [.agg (JS b r_ f d g e i),.agg (NW j a m k o l p)] Try.func36 rfl rfl rfl rfl fun t hk=>?_
 have hm:=Ah.begin h w hh
 unfold J3 at H
 refine XT (Aa (wl fun K hK=>?_))
 refine wb (.agg (JS b r_ f d g e i)) hk hm fun x a1 bi (an:Kn 15 [(x,0)] [tP 2 0 0,tA 0 (JS b r_ f d g e i),tA 1 (NW j a m k o l p)] a1) a0=>hK _ _ ?_
 refine wl fun K hK=>?_
 refine wb (.agg (NW j a m k o l p)) an a0 fun ac a2 bj (ao:Kn 15 [(x,0),(ac,0)] [tP 3 1 0,tP 2 0 0,tA 0 (JS b r_ f d g e i),tA 1 (NW j a m k o l p)] a2) y=>hK _ _ ?_
 refine Rk 2 1 [tP 3 1 0,tP 2 0 0] ao y fun a7 ap=>?_
 refine wf (XT (XT (Aa (Rk 0 1 [tA 6 (JS b r_ f d g e i),tP 3 1 0,tP 2 0 0] ap y fun a8 aq=>?_))))
 obtain⟨x7,ex7,H⟩:=Ao H
 refine wl fun K hK=>?_
 refine wc [.agg (JS b r_ f d g e i)] aq y (Ld n y.has r_ ((Ab (Ae z) (Ab (Ab Ac Ac) (Ab (Ae aa) (Ab (Ae ab) (Ab Ac (Ab Ac (Ab Ac Ac))))))):rep h r_ _) ex7) fun bg ak bk al s q=>?_
 replace z:=z.mono s
 replace aa:=aa.mono s
 replace ab:=ab.mono s
 replace ah:=ah.mono s
 replace ai:=ai.mono s
 replace aj:=aj.mono s
 obtain rfl:=al
 refine⟨.one (.c (.int .i64 x7)),rfl,fun a3 (ar:Kn 15 [(x,0),(ac,0)] [tI 7 x7,tA 6 (JS b r_ f d g e i),tP 3 1 0,tP 2 0 0] a3)=>hK _ _ ?_⟩
 refine Rk 2 1 [tI 5 x7,tP 3 1 0,tP 2 0 0] ar q fun a9 au=>?_
 refine wf (XT (Aa (Rk 0 2 [tB 9 (x7 != 0),tI 5 x7,tP 3 1 0,tP 2 0 0] au q fun ba af=>?_)))
 refine wf (wC ((x7 != 0)) af (fun ad=>?_) (fun ad=>?_))
 ·
  rw [ad,XW] at H
  refine XT (Aa (Rk 0 2 [tI 4 x7] af q fun bb av=>?_))
  refine wf (wp_ret ?_)
  obtain rfl:=XZ H
  exact rt (.one (.c (.int .i64 x7))) av q rfl
 ·
  rw [ad,XV] at H
  refine wp_skip (XT (XT (Aa (Rk 0 2 [tA 12 (NW j a m k o l p),tA 11 (JS b r_ f d g e i)] af q fun bc aw=>?_))))
  obtain⟨x13,ex13,H⟩:=Ao H
  refine wl fun K hK=>?_
  refine wc [.agg (JS b r_ f d g e i),.agg (NW j a m k o l p)] aw q (NL n q.has r_ ((Ab (Ae z) (Ab (Ab Ac Ac) (Ab (Ae aa) (Ab (Ae ab) (Ab Ac (Ab Ac (Ab Ac Ac))))))):rep ak r_ _) a ((Ab (Ae ah) (Ab (Ae ai) (Ae aj))):rep ak a _) ex13) fun bh a5 bl am a6 u=>?_
  obtain rfl:=am
  refine⟨.one (.c (.bool x13)),rfl,fun a4 (ax:Kn 15 [(x,0),(ac,0)] [tB 13 x13,tA 12 (NW j a m k o l p),tA 11 (JS b r_ f d g e i)] a4)=>hK _ _ ?_⟩
  refine Rk 3 1 [tB 14 (!x13)] ax u fun bd ag=>?_
  refine wf (wC ((!x13)) ag (fun ae=>?_) (fun ae=>?_))
  ·
   rw [ae,XW] at H
   refine XT (Aa (Rk 0 1 [tI 4 2] ag u fun be ay=>?_))
   refine wf (wp_ret ?_)
   obtain rfl:=XZ H
   exact rt (.one (.c (.int .i64 2))) ay u rfl
  ·
   rw [ae,XV] at H
   refine wp_skip (XT (Aa (Rk 0 1 [tI 4 0] ag u fun bf az=>?_)))
   refine wf (wp_ret ?_)
   obtain rfl:=XZ H
   exact rt (.one (.c (.int .i64 0))) az u rfl
abbrev TC:List SC:=[.slice none 0 0,.slice none 0 0,.slice none 0 0]
abbrev JT (d:Option Addr) (a:As) (j:Nat) (e:Option Addr) (k:Nat) (f:Option Addr) (l:Nat):List SC:=[.slice d a.holds.length j,.slice e a.turns.length k,.slice f a.spares.length l]
abbrev JU (b:Option Addr) (r_:Af) (m:Nat) (g:Option Addr) (o:Nat) (i:Option Addr) (p:Nat):List SC:=[.slice b r_.legs.length m,.int .i64 r_.turn.lo,.int .i64 r_.turn.hi,.slice g r_.buses.length o,.slice i r_.spares.length p,.int .i64 r_.unit,.int .i64 r_.gap,.int .i64 r_.fr,.int .i64 r_.to_]
abbrev Jg:TM:=[tP 3 1 0,tP 2 0 0]
set_option maxRecDepth 100000 in
set_option maxHeartbeats 4000000 in
theorem PO (n:Nat) {h:Ad} {w:World} (hh:Dk h w) (r_:Af) {cs_r_:List Value} (hx_r_:rep h r_ cs_r_) (a:As) {cs_a:List Value} (hx_a:rep h a cs_a) {r:Bool} (H:Hx n r_ a=some r) :
  Calls Try.prog 24 #[.agg cs_r_.toArray,.agg cs_a.toArray] w (Dq (fun h v=>v=.bool r) h w):=by
 obtain⟨_,_,rfl,⟨b,m,rfl,ad⟩,⟨_,_,rfl,⟨_,_,rfl,rfl,rfl⟩,⟨_,_,rfl,⟨g,o,rfl,ae⟩,⟨_,_,rfl,⟨i,p,rfl,af⟩,⟨_,_,rfl,rfl,⟨_,_,rfl,rfl,⟨_,_,rfl,rfl,rfl⟩⟩⟩⟩⟩⟩⟩:=hx_r_
 obtain⟨_,_,rfl,⟨d,j,rfl,aa⟩,⟨_,_,rfl,⟨e,k,rfl,ab⟩,⟨f,l,rfl,ac⟩⟩⟩:=hx_a
 refine enter 18 [.agg (JU b r_ m g o i p),.agg (JT d a j e k f l)] Try.func24 rfl rfl rfl rfl fun t hk=>?_
 have hm:=Ah.begin h w hh
 unfold Hx at H
 refine XT (Aa (wl fun K hK=>?_))
 refine wb (.agg (JU b r_ m g o i p)) hk hm fun q bc bt (ax:Kn 18 [(q,0)] [tP 2 0 0,tA 0 (JU b r_ m g o i p),tA 1 (JT d a j e k f l)] bc) bb=>hK _ _ ?_
 refine wl fun K hK=>?_
 refine wb (.agg (JT d a j e k f l)) ax bb fun s bd bu (ay:Kn 18 [(q,0),(s,0)] [tP 3 1 0,tP 2 0 0,tA 0 (JU b r_ m g o i p),tA 1 (JT d a j e k f l)] bd) ai=>hK _ _ ?_
 refine Rk 2 1 Jg ay ai fun bj az=>?_
 refine wf (XT (Aa (Rk 0 1 ((tA 5 (JU b r_ m g o i p))::Jg) az ai fun bk a0=>?_)))
 obtain⟨x6,ex6,H⟩:=Ao H
 refine wl fun K hK=>?_
 refine wc [.agg (JU b r_ m g o i p)] a0 ai (QN n ai.has r_ ((Ab (Ae ad) (Ab (Ab Ac Ac) (Ab (Ae ae) (Ab (Ae af) (Ab Ac (Ab Ac (Ab Ac Ac))))))):rep h r_ _) ex6) fun bq aj bv au u y=>?_
 replace ad:=ad.mono u
 replace ae:=ae.mono u
 replace af:=af.mono u
 replace aa:=aa.mono u
 replace ab:=ab.mono u
 replace ac:=ac.mono u
 obtain rfl:=au
 refine⟨.one (.c (.bool x6)),rfl,fun be (a1:Kn 18 [(q,0),(s,0)] ((tB 6 x6)::(tA 5 (JU b r_ m g o i p))::Jg) be)=>hK _ _ ?_⟩
 refine Rk 2 1 ((tB 7 x6)::Jg) a1 y fun aq al=>?_
 rcases Bool.eq_false_or_eq_true (x6) with ag | ag
 ·
  rw [ag,XW] at H
  have a2:Kn 18 [(q,0),(s,0)] ((tB 7 true)::Jg) aq:=(al.setB 7 true (by rfl) ag).kp
  refine Rk 3 2 ((tA 9 TC)::(tA 8 (JT d a j e k f l))::(tB 7 true)::Jg) a2 y fun bl am=>?_
  obtain⟨x10,ex10,H⟩:=Ao H
  refine AI _ rfl (Ak am (by kernel_rfl)) fun K hK=>?_
  refine wc [.agg (JT d a j e k f l),.agg TC] am y (PM n y.has a ((Ab (Ae aa) (Ab (Ae ab) (Ae ac))):rep aj a _) (Av.mk ([]:List Int) ([]:List Int) ([]:List (List Int))) ((Ab (Ae A0.nil) (Ab (Ae A0.nil) (Ae A0.nil))):rep aj (Av.mk ([]:List Int) ([]:List Int) ([]:List (List Int))) _) ex10) fun br ak bw av x z=>?_
  replace ad:=ad.mono x
  replace ae:=ae.mono x
  replace af:=af.mono x
  replace aa:=aa.mono x
  replace ab:=ab.mono x
  replace ac:=ac.mono x
  obtain rfl:=av
  refine⟨.one (.c (.bool x10)),rfl,fun bf (a3:Kn 18 [(q,0),(s,0)] ((tB 10 x10)::(tA 9 TC)::(tA 8 (JT d a j e k f l))::(tB 7 true)::Jg) bf)=>hK _ _ ?_⟩
  refine Rk 6 2 ((tB 12 x10)::Jg) a3 z fun ar an=>?_
  rcases Bool.eq_false_or_eq_true (x10) with ah | ah
  ·
   rw [ah,XW] at H
   have a4:Kn 18 [(q,0),(s,0)] ((tB 12 true)::Jg) ar:=(an.setB 12 true (by rfl) ah).kp
   refine Rk 8 2 [tA 14 (JT d a j e k f l),tA 13 (JU b r_ m g o i p),tB 12 true] a4 z fun bm ao=>?_
   obtain⟨x15,ex15,H⟩:=Ao H
   refine AI _ rfl (Ak ao (by kernel_rfl)) fun K hK=>?_
   refine wc [.agg (JU b r_ m g o i p),.agg (JT d a j e k f l)] ao z (PN n z.has r_ ((Ab (Ae ad) (Ab (Ab Ac Ac) (Ab (Ae ae) (Ab (Ae af) (Ab Ac (Ab Ac (Ab Ac Ac))))))):rep ak r_ _) a ((Ab (Ae aa) (Ab (Ae ab) (Ae ac))):rep ak a _) ex15) fun bs bh bx aw bi ap=>?_
   obtain rfl:=aw
   refine⟨.one (.c (.int .i64 x15)),rfl,fun bg (a5:Kn 18 [(q,0),(s,0)] [tI 15 x15,tA 14 (JT d a j e k f l),tA 13 (JU b r_ m g o i p),tB 12 true] bg)=>hK _ _ ?_⟩
   refine Rk 11 3 [tB 4 (x15 == 0)] a5 ap fun bn a6=>?_
   refine wf (wp_ret ?_)
   obtain rfl:=XZ H
   exact rt (.one (.c (.bool (x15 == 0)))) a6 ap rfl
  ·
   rw [ah,XV] at H
   have a7:Kn 18 [(q,0),(s,0)] ((tB 12 false)::Jg) ar:=(an.setB 12 false (by rfl) ah).kp
   refine Rk 8 6 [tB 4 false] a7 z fun bo a8=>?_
   refine wf (wp_ret ?_)
   obtain rfl:=XZ H
   exact rt (.one (.c (.bool false))) a8 z rfl
 ·
  rw [ag,XV] at H
  have a9:Kn 18 [(q,0),(s,0)] ((tB 7 false)::Jg) aq:=(al.setB 7 false (by rfl) ag).kp
  refine Rk 3 11 [tB 4 false] a9 y fun bp ba=>?_
  refine wf (wp_ret ?_)
  obtain rfl:=XZ H
  exact rt (.one (.c (.bool false))) ba y rfl
set_option maxRecDepth 100000 in
set_option maxHeartbeats 4000000 in
theorem GX (n:Nat) {h:Ad} {w:World} (hh:Dk h w) (r_:Rg) {cs_r_:List Value} (hx_r_:rep h r_ cs_r_) (words:List (IK .u16)) {a_words:Option Addr} {c_words:Nat} (hr_words:A0 h a_words c_words words) (at_:Int) {r:Int} (H:G9 n r_ words at_=some r) :
  Calls Try.prog 71 #[.agg cs_r_.toArray,.slice a_words words.length c_words,.int .i64 at_] w (Dq (fun h v=>v=.int .i64 r) h w):=by
 obtain⟨_,_,rfl,rfl,rfl⟩:=hx_r_
 refine enter 42 [.agg [.int .i64 r_.lo,.int .i64 r_.hi],.c (.slice a_words words.length c_words),.c (.int .i64 at_)] Try.func71 rfl rfl rfl rfl fun t hk=>?_
 have hm:=Ah.begin h w hh
 unfold G9 at H
 refine XT (Aa (wl fun K hK=>?_))
 refine wb (.agg [.int .i64 r_.lo,.int .i64 r_.hi]) hk hm fun e ap a7 (ae:Kn 42 [(e,0)] [tP 3 0 0,tA 0 [.int .i64 r_.lo,.int .i64 r_.hi],tS 1 a_words words.length c_words,tI 2 at_] ap) d=>hK _ _ ?_
 refine Rk 1 1 [tP 3 0 0,tS 1 a_words words.length c_words,tI 2 at_] ae d fun a5 aj=>?_
 refine wf (XT (XT (Aa (Rk 0 3 [tB 10 (((words.length:Nat):Int) == 0),tP 3 0 0,tS 1 a_words words.length c_words,tI 2 at_] aj d fun a6 q=>?_))))
 refine wf (wC ((((words.length:Nat):Int) == 0)) q (fun i=>?_) (fun i=>?_))
 ·
  rw [i,XW] at H
  refine XT (Aa (Rk 0 3 [tI 6 r_.hi] q d fun av x=>?_))
  refine wf (wp_ret ?_)
  obtain rfl:=XZ H
  exact rt (.one (.c (.int .i64 r_.hi))) x d rfl
 ·
  rw [i,XV] at H
  refine wp_skip (XT (Aa (Rk 0 4 [tI 16 ((words.length:Nat):Int),tI 14 at_,tS 13 a_words words.length c_words,tP 3 0 0] q d fun aw y=>?_)))
  obtain⟨x17,ex17,H⟩:=Ao H
  refine Vd 4 y rfl rfl (rfl) rfl (by decide) (by rfl) (by rfl) (Sc ex17) fun ao (z:Kn 42 [(e,0)] [tI 17 (Int.tmod at_ ((words.length:Nat):Int)),tI 16 ((words.length:Nat):Int),tI 14 at_,tS 13 a_words words.length c_words,tP 3 0 0] ao)=>?_
  obtain⟨x18,ex18,H⟩:=Ao H
  obtain⟨ak,al,an⟩:=Ai ex18
  obtain⟨f,g,au,s,am,u⟩:=hr_words.get (by decide) an
  obtain rfl:=am
  have a:=d.addPlc (b:=f) (o:=g+(Int.tmod at_ ((words.length:Nat):Int):Int).toNat*1) (cs:=[.int .u16 x18.n]) (fun j c hj=>u j _ (Aj hj)) rfl (by kernel_rfl) (by kernel_rfl)
  refine Bb 5 (Int.tmod at_ ((words.length:Nat):Int)) rfl rfl (rfl) rfl (by decide) z (by rfl) (by rfl) (by rfl) s (by rfl) ak al (by kernel_rfl) fun aq (aa:Kn 42 [(e,0),(f,g+(Int.tmod at_ ((words.length:Nat):Int):Int).toNat*1)] [tP 18 1 0,tI 17 (Int.tmod at_ ((words.length:Nat):Int)),tI 16 ((words.length:Nat):Int),tI 14 at_,tS 13 a_words words.length c_words,tP 3 0 0] aq)=>?_
  refine Rk 6 3 [tI 7 (IntKind.i64.wrap x18.n),tP 3 0 0] aa a fun ax ab=>?_
  refine wf (XT (XT (Aa (Rk 0 2 [tI 22 (Int.tmod (IntKind.i64.wrap x18.n) 4),tI 7 (IntKind.i64.wrap x18.n),tP 3 0 0] ab a fun ay ac=>?_))))
  refine wf (wp_block (XT (Aa (Rk 0 2 [tB 23 ((Int.tmod (IntKind.i64.wrap x18.n) 4) == 0),tI 22 (Int.tmod (IntKind.i64.wrap x18.n) 4),tI 7 (IntKind.i64.wrap x18.n),tP 3 0 0] ac a fun az m=>?_))))
  refine wf (wC (((Int.tmod (IntKind.i64.wrap x18.n) 4) == 0)) m (fun k=>?_) (fun k=>?_))
  ·
   rw [k,XW] at H
   refine XT (Aa (Rk 0 3 [tI 6 r_.lo] m a fun a0 ad=>?_))
   refine wf (wp_ret ?_)
   obtain rfl:=XZ H
   exact rt (.one (.c (.int .i64 r_.lo))) ad a rfl
  ·
   rw [k,XV] at H
   refine XT (Aa (Rk 0 2 [tB 27 ((Int.tmod (IntKind.i64.wrap x18.n) 4) == 1),tI 7 (IntKind.i64.wrap x18.n),tP 3 0 0] m a fun a1 p=>?_))
   refine wf (wC (((Int.tmod (IntKind.i64.wrap x18.n) 4) == 1)) p (fun l=>?_) (fun l=>?_))
   ·
    rw [l,XW] at H
    refine XT (Aa (Rk 0 3 [tI 6 r_.hi] p a fun a2 af=>?_))
    refine wf (wp_ret ?_)
    obtain rfl:=XZ H
    exact rt (.one (.c (.int .i64 r_.hi))) af a rfl
   ·
    rw [l,XV] at H
    refine wp_skip (XT (Al (by kernel_rfl) ?_))
    replace a:=a.drew
    refine Am [] [(e,0),(f,g+(Int.tmod at_ ((words.length:Nat):Int):Int).toNat*1)] [⟨[.int .i64 r_.lo,.int .i64 r_.hi],some 24⟩,⟨[.int .u16 x18.n],none⟩] ?_
    refine Dr [0,1,2,3,4,5,6,7,8] (dn 8) [tI 39 (IntKind.i64.wrap ((IntKind.i64.wrap (r_.hi-r_.lo))+1)),tI 33 (IntKind.i64.wrap x18.n),tI 32 r_.lo] p a fun a3 ag=>?_
    obtain⟨x40,ex40,H⟩:=Ao H
    refine Ve 9 (fun _ _ _ _ _ h=>h) ag rfl rfl (rfl) rfl (by decide) (by kernel_rfl) (by kernel_rfl) a.plOk (by rfl) (by rfl) (Sc ex40) fun ar (ah:Kn 42 [(e,0),(f,g+(Int.tmod at_ ((words.length:Nat):Int):Int).toNat*1)] [tI 40 (Int.tmod (IntKind.i64.wrap x18.n) (IntKind.i64.wrap ((IntKind.i64.wrap (r_.hi-r_.lo))+1))),tI 39 (IntKind.i64.wrap ((IntKind.i64.wrap (r_.hi-r_.lo))+1)),tI 33 (IntKind.i64.wrap x18.n),tI 32 r_.lo] ar)=>?_
    refine Dr [10,11] (dn 11) [tI 6 (IntKind.i64.wrap (r_.lo+(Int.tmod (IntKind.i64.wrap x18.n) (IntKind.i64.wrap ((IntKind.i64.wrap (r_.hi-r_.lo))+1)))))] ah a fun a4 ai=>?_
    refine A1 (by kernel_rfl) (wp_ret ?_)
    obtain rfl:=XZ H
    exact rt (.one (.c (.int .i64 (IntKind.i64.wrap (r_.lo+(Int.tmod (IntKind.i64.wrap x18.n) (IntKind.i64.wrap ((IntKind.i64.wrap (r_.hi-r_.lo))+1)))))))) ai a rfl
end Go.Proofs.Ytokchpjijlebiaa
