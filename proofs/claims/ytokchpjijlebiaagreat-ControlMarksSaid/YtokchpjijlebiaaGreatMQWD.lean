/- Each call computes its plain function. -/
import Derived.Test.YtokchpjijlebiaaGreatProg
import Derived.Test.YtokchpjijlebiaaGreatMQP0
import Derived.Test.YtokchpjijlebiaaGreatMQWA
import Derived.Test.YtokchpjijlebiaaGreatMQWB
set_option linter.all false
namespace Go.Proofs.YtokchpjijlebiaaGreat
open Go Go.RowKit
open Rep (rep)
open KRep (kv)
open VRep (rv)
abbrev MA (l:Option Addr) (a:Aw) (y:Nat) (q:Option Addr) (z:Nat) (s:Option Addr) (aa:Nat):List SC:=[.slice l a.holds.length y,.slice q a.turns.length z,.slice s a.spares.length aa]
abbrev MB (m:Option Addr) (t_:Au) (u:Nat) (p:Option Addr) (x:Nat) (i:Option Addr) (k:Nat):List SC:=[.slice m t_.tm.length u,.slice p t_.turns.length x,.slice i t_.legs.length k]
abbrev EU:TM:=[tP 3 1 0,tP 2 0 0]
set_option maxRecDepth 100000 in
set_option maxHeartbeats 4000000 in
theorem Ow (n:Nat) {h:Ae} {w:World} (hh:C9 h w) (a:Aw) {cs_a:List Value} (hx_a:rep h a cs_a) (t_:Au) {cs_t_:List Value} (hx_t_:rep h t_ cs_t_) {r:Bool} (H:GN n a t_=some r) :
  Calls Tryz.prog 15 #[.agg cs_a.toArray,.agg cs_t_.toArray] w (CA (fun h v=>v=.bool r) h w):=by
 obtain⟨_,_,rfl,⟨l,y,rfl,bc⟩,⟨_,_,rfl,⟨q,z,rfl,bd⟩,⟨s,aa,rfl,be⟩⟩⟩:=hx_a
 obtain⟨_,_,rfl,⟨m,u,rfl,ba⟩,⟨_,_,rfl,⟨p,x,rfl,bb⟩,⟨i,k,rfl,ak⟩⟩⟩:=hx_t_
 refine enter 58 [.agg (MA l a y q z s aa),.agg (MB m t_ u p x i k)] Tryz.func15 rfl rfl rfl rfl fun t hk=>?_
 have hm:=Ai.begin h w hh
 unfold GN at H
 refine XT (Aa (wl fun K hK=>?_))
 refine wb (.agg (MA l a y q z s aa)) hk hm fun d cv df (b9:Kn 58 [(d,0)] [tP 2 0 0,tA 0 (MA l a y q z s aa),tA 1 (MB m t_ u p x i k)] cv) co=>hK _ _ ?_
 refine wl fun K hK=>?_
 refine wb (.agg (MB m t_ u p x i k)) b9 co fun e cw dg (ca:Kn 58 [(d,0),(e,0)] [tP 3 1 0,tP 2 0 0,tA 0 (MA l a y q z s aa),tA 1 (MB m t_ u p x i k)] cw) aw=>hK _ _ ?_
 refine Rk 2 1 EU ca aw fun c7 cb=>?_
 refine wf (XT (XT (Aa (Rk 0 1 ((tI 5 0)::EU) cb aw fun c8 cc=>?_))))
 refine wf ?_
 obtain⟨bf,a3,H⟩:=Am H
 refine Ap (fun a' w'=>∃ (bi:Unit)(az:Array Value)(an:Ae),a' = ⟨az,[]⟩∧Kn 58 [(d,0),(e,0)] EU az∧Ai ⟨w,h,A3⟩ an [(d,0),(e,0)] [⟨MA l a y q z s aa,some 32⟩,⟨MB m t_ u p x i k,some 38⟩] [] w'∧Ae.le h an∧bf=.go bi) ?_ ?_
 ·
  refine wp_block ?_
  refine An (fun cu a' w'=>∃ (x_v10:Int)(a0:Array Value)(am:Ae),a' = ⟨a0,[]⟩∧Kn 58 [(d,0),(e,0)] ((tI 5 x_v10)::EU) a0∧Ai ⟨w,h,A3⟩ am [(d,0),(e,0)] [⟨MA l a y q z s aa,some 32⟩,⟨MB m t_ u p x i k,some 38⟩] [] w'∧Ae.le h am∧Dy cu t_ x_v10=some bf) n ?_ ?_
  ·
   exact XY 0 ⟨_,_,rfl,cc.kp,aw,Ae.le_refl _,a3⟩
  ·
   rintro ay _ dh ⟨x_v10,a0,am,rfl,cd,ai,ab,g⟩
   clear a3
   obtain _ | ay:=ay
   ·
    rw [Dy] at g; cases g
   rw [Dy] at g
   replace bc:=bc.mono ab
   replace bd:=bd.mono ab
   replace be:=be.mono ab
   replace ba:=ba.mono ab
   replace bb:=bb.mono ab
   replace ak:=ak.mono ab
   refine XT (XT ?_)
   obtain⟨bg,al,g⟩:=Am g
   refine Ap (fun a' w'=>∃ (a1:Array Value)(ao:Ae),a' = ⟨a1,[]⟩∧Kn 58 [(d,0),(e,0)] [tI 5 x_v10,tP 3 1 0,tP 2 0 0,tB 14 bg] a1∧Ai ⟨w,h,A3⟩ ao [(d,0),(e,0)] [⟨MA l a y q z s aa,some 32⟩,⟨MB m t_ u p x i k,some 38⟩] [] w'∧Ae.le am ao) ?_ ?_
   ·
    refine Aa (Rk 0 6 ((tB 11 (decide (x_v10<((t_.legs.length:Nat):Int))))::(tI 5 x_v10)::EU) cd ai fun bm a7=>?_)
    rcases Bool.eq_false_or_eq_true (decide (x_v10<((t_.legs.length:Nat):Int))) with af | af
    ·
     rw [af,XW] at al
     have ce:Kn 58 [(d,0),(e,0)] ((tB 11 true)::(tI 5 x_v10)::EU) bm:=(a7.setB 11 true (by rfl) af).kp
     refine Rk 6 3 ((tB 14 (decide (x_v10<9)))::(tI 5 x_v10)::EU) ce ai fun c9 cf=>?_
     refine wf ?_
     obtain rfl:=XZ al
     exact XY _ ⟨_,rfl,cf.kp,ai,Ae.le_refl _⟩
    ·
     rw [af,XV] at al
     have cg:Kn 58 [(d,0),(e,0)] ((tB 11 false)::(tI 5 x_v10)::EU) bm:=(a7.setB 11 false (by rfl) af).kp
     refine Rk 6 3 ((tB 14 false)::(tI 5 x_v10)::EU) cg ai fun da ch=>?_
     refine wf ?_
     obtain rfl:=XZ al
     exact XY _ ⟨_,rfl,ch.kp,ai,Ae.le_refl _⟩
   ·
    rintro _ di ⟨a1,ao,rfl,ar,ax,av⟩
    replace ak:=ak.mono av
    refine wC (bg) ar (fun ap=>?_) (fun ap=>?_)
    ·
     rw [ap,XW] at g
     refine wp_skip (XT (wp_block (XT (Aa (Rk 0 3 ((tI 19 x_v10)::(tS 18 i t_.legs.length k)::(tI 5 x_v10)::EU) ar ax fun db ci=>?_)))))
     obtain⟨x20,ex20,g⟩:=Am g
     obtain⟨cp,cq,ct⟩:=Ah ex20
     obtain⟨a2,bh,cy,br,cr,bs⟩:=ak.get (by decide) ct
     obtain⟨bp,bq,rfl,c0⟩:=cr
     have aj:=ax.addPlc (b:=a2) (o:=bh+(x_v10:Int).toNat*1) (cs:=[.slice bp x20.length bq]) (fun j c hj=>bs j _ (Aj hj)) rfl (by kernel_rfl) (by kernel_rfl)
     refine AN 3 (x_v10) rfl rfl (rfl) rfl (by decide) ci (by rfl) (by rfl) (by rfl) br (by rfl) cp cq (by kernel_rfl) fun cx (cj:Kn 58 [(d,0),(e,0),(a2,bh+(x_v10:Int).toNat*1)] ((tP 20 2 0)::(tI 19 x_v10)::(tS 18 i t_.legs.length k)::(tI 5 x_v10)::EU) cx)=>?_
     refine Rk 4 3 ((tB 23 (decide (((x20.length:Nat):Int)>10)))::(tI 5 x_v10)::EU) cj aj fun dc au=>?_
     refine wf (wC (decide (((x20.length:Nat):Int)>10)) au (fun aq=>?_) (fun aq=>?_))
     ·
      rw [aq,XW] at g
      refine XT (Aa (Rk 0 1 [tB 4 false] au aj fun dd ck=>?_))
      refine wf (wp_ret ?_)
      obtain rfl:=XZ g
      obtain rfl:=XZ H
      exact rt (.one (.c (.bool false))) ck aj rfl
     ·
      rw [aq,XV] at g
      refine wp_skip (Aa (Rk 0 3 ((tI 5 (IntKind.i64.wrap (x_v10+1)))::EU) au aj fun de cl=>?_))
      refine wf ?_
      exact XY ay ⟨Nat.lt_succ_self _,XY (IntKind.i64.wrap (x_v10+1)) ⟨_,_,rfl,(cl.keep [5,3,2] (by rfl)).cut 2 (by kernel_rfl),aj.cutPl 2 (by kernel_rfl),XU ab av,g⟩⟩
    ·
     rw [ap,XV] at g
     refine wp_exit ?_
     obtain rfl:=XZ g
     exact XY () ⟨_,_,rfl,ar.kp,ax,XU ab av,rfl⟩
 ·
  rintro _ dj ⟨bi,az,an,rfl,cm,f,cz,rfl⟩
  rw [Ex.bind_go] at H
  refine XT (Aa (Rk 0 5 ((tB 28 (decide (((a.holds.length:Nat):Int)≤8)))::EU) cm f fun bn a8=>?_))
  rcases Bool.eq_false_or_eq_true (decide (((a.holds.length:Nat):Int)≤8)) with ag | ag
  ·
   rw [ag,XW] at H
   have cn:Kn 58 [(d,0),(e,0)] ((tB 28 true)::EU) bn:=(a8.setB 28 true (by rfl) ag).kp
   refine Rk 5 6 ((tB 34 (decide (((a.turns.length:Nat):Int)≤8)))::EU) cn f fun bo a9=>?_
   rcases Bool.eq_false_or_eq_true (decide (((a.turns.length:Nat):Int)≤8)) with ah | ah
   ·
    rw [ah,XW] at H
    have bt:Kn 58 [(d,0),(e,0)] ((tB 34 true)::EU) bo:=(a9.setB 34 true (by rfl) ah).kp
    refine Rk 11 6 [tB 40 (decide (((a.spares.length:Nat):Int)≤8)),tP 3 1 0] bt f fun bj a4=>?_
    rcases Bool.eq_false_or_eq_true (decide (((a.spares.length:Nat):Int)≤8)) with ac | ac
    ·
     rw [ac,XW] at H
     have bu:Kn 58 [(d,0),(e,0)] [tB 40 true,tP 3 1 0] bj:=(a4.setB 40 true (by rfl) ac).kp
     refine Rk 17 6 [tB 46 (decide (((t_.tm.length:Nat):Int)≤8)),tP 3 1 0] bu f fun bk a5=>?_
     rcases Bool.eq_false_or_eq_true (decide (((t_.tm.length:Nat):Int)≤8)) with ad | ad
     ·
      rw [ad,XW] at H
      have bv:Kn 58 [(d,0),(e,0)] [tB 46 true,tP 3 1 0] bk:=(a5.setB 46 true (by rfl) ad).kp
      refine Rk 23 6 [tB 52 (decide (((t_.turns.length:Nat):Int)≤8)),tP 3 1 0] bv f fun bl a6=>?_
      rcases Bool.eq_false_or_eq_true (decide (((t_.turns.length:Nat):Int)≤8)) with ae | ae
      ·
       rw [ae,XW] at H
       have bw:Kn 58 [(d,0),(e,0)] [tB 52 true,tP 3 1 0] bl:=(a6.setB 52 true (by rfl) ae).kp
       refine Rk 29 6 [tB 4 (decide (((t_.legs.length:Nat):Int)≤8))] bw f fun c1 bx=>?_
       refine wf (wp_ret ?_)
       obtain rfl:=XZ H
       exact rt (.one (.c (.bool (decide (((t_.legs.length:Nat):Int)≤8))))) bx f rfl
      ·
       rw [ae,XV] at H
       have bz:Kn 58 [(d,0),(e,0)] [tB 52 false,tP 3 1 0] bl:=(a6.setB 52 false (by rfl) ae).kp
       refine Rk 29 6 [tB 4 false] bz f fun c2 b0=>?_
       refine wf (wp_ret ?_)
       obtain rfl:=XZ H
       exact rt (.one (.c (.bool false))) b0 f rfl
     ·
      rw [ad,XV] at H
      have b1:Kn 58 [(d,0),(e,0)] [tB 46 false,tP 3 1 0] bk:=(a5.setB 46 false (by rfl) ad).kp
      refine Rk 23 12 [tB 4 false] b1 f fun c3 b2=>?_
      refine wf (wp_ret ?_)
      obtain rfl:=XZ H
      exact rt (.one (.c (.bool false))) b2 f rfl
    ·
     rw [ac,XV] at H
     have b3:Kn 58 [(d,0),(e,0)] [tB 40 false,tP 3 1 0] bj:=(a4.setB 40 false (by rfl) ac).kp
     refine Rk 17 18 [tB 4 false] b3 f fun c4 b4=>?_
     refine wf (wp_ret ?_)
     obtain rfl:=XZ H
     exact rt (.one (.c (.bool false))) b4 f rfl
   ·
    rw [ah,XV] at H
    have b5:Kn 58 [(d,0),(e,0)] ((tB 34 false)::EU) bo:=(a9.setB 34 false (by rfl) ah).kp
    refine Rk 11 24 [tB 4 false] b5 f fun c5 b6=>?_
    refine wf (wp_ret ?_)
    obtain rfl:=XZ H
    exact rt (.one (.c (.bool false))) b6 f rfl
  ·
   rw [ag,XV] at H
   have b7:Kn 58 [(d,0),(e,0)] ((tB 28 false)::EU) bn:=(a8.setB 28 false (by rfl) ag).kp
   refine Rk 5 30 [tB 4 false] b7 f fun c6 b8=>?_
   refine wf (wp_ret ?_)
   obtain rfl:=XZ H
   exact rt (.one (.c (.bool false))) b8 f rfl
abbrev MC (j:Option Addr) (a:Aw) (m:Nat) (k:Option Addr) (o:Nat) (l:Option Addr) (p:Nat):List SC:=[.slice j a.holds.length m,.slice k a.turns.length o,.slice l a.spares.length p]
abbrev Jz (b:Option Addr) (r_:Af) (f:Nat) (d:Option Addr) (g:Nat) (e:Option Addr) (i:Nat):List SC:=[.slice b r_.legs.length f,.int .i64 r_.turn.lo,.int .i64 r_.turn.hi,.slice d r_.buses.length g,.slice e r_.spares.length i,.int .i64 r_.unit,.int .i64 r_.gap,.int .i64 r_.fr,.int .i64 r_.to_]
set_option maxRecDepth 100000 in
set_option maxHeartbeats 4000000 in
theorem Ox (n:Nat) {h:Ae} {w:World} (hh:C9 h w) (r_:Af) {cs_r_:List Value} (hx_r_:rep h r_ cs_r_) (a:Aw) {cs_a:List Value} (hx_a:rep h a cs_a) {r:Int} (H:GO n r_ a=some r) :
  Calls Tryz.prog 18 #[.agg cs_r_.toArray,.agg cs_a.toArray] w (CA (fun h v=>v=.int .i64 r) h w):=by
 obtain⟨_,_,rfl,⟨b,f,rfl,z⟩,⟨_,_,rfl,⟨_,_,rfl,rfl,rfl⟩,⟨_,_,rfl,⟨d,g,rfl,aa⟩,⟨_,_,rfl,⟨e,i,rfl,ab⟩,⟨_,_,rfl,rfl,⟨_,_,rfl,rfl,⟨_,_,rfl,rfl,rfl⟩⟩⟩⟩⟩⟩⟩:=hx_r_
 obtain⟨_,_,rfl,⟨j,m,rfl,ah⟩,⟨_,_,rfl,⟨k,o,rfl,ai⟩,⟨l,p,rfl,aj⟩⟩⟩:=hx_a
 refine enter 15 [.agg (Jz b r_ f d g e i),.agg (MC j a m k o l p)] Tryz.func18 rfl rfl rfl rfl fun t hk=>?_
 have hm:=Ai.begin h w hh
 unfold GO at H
 refine XT (Aa (wl fun K hK=>?_))
 refine wb (.agg (Jz b r_ f d g e i)) hk hm fun x a1 bi (an:Kn 15 [(x,0)] [tP 2 0 0,tA 0 (Jz b r_ f d g e i),tA 1 (MC j a m k o l p)] a1) a0=>hK _ _ ?_
 refine wl fun K hK=>?_
 refine wb (.agg (MC j a m k o l p)) an a0 fun ac a2 bj (ao:Kn 15 [(x,0),(ac,0)] [tP 3 1 0,tP 2 0 0,tA 0 (Jz b r_ f d g e i),tA 1 (MC j a m k o l p)] a2) y=>hK _ _ ?_
 refine Rk 2 1 [tP 3 1 0,tP 2 0 0] ao y fun a7 ap=>?_
 refine wf (XT (XT (Aa (Rk 0 1 [tA 6 (Jz b r_ f d g e i),tP 3 1 0,tP 2 0 0] ap y fun a8 aq=>?_))))
 obtain⟨x7,ex7,H⟩:=Am H
 refine wl fun K hK=>?_
 refine wc [.agg (Jz b r_ f d g e i)] aq y (Kv n y.has r_ ((Ab (Ad z) (Ab (Ab Ac Ac) (Ab (Ad aa) (Ab (Ad ab) (Ab Ac (Ab Ac (Ab Ac Ac))))))):rep h r_ _) ex7) fun bg ak bk al s q=>?_
 replace z:=z.mono s
 replace aa:=aa.mono s
 replace ab:=ab.mono s
 replace ah:=ah.mono s
 replace ai:=ai.mono s
 replace aj:=aj.mono s
 obtain rfl:=al
 refine⟨.one (.c (.int .i64 x7)),rfl,fun a3 (ar:Kn 15 [(x,0),(ac,0)] [tI 7 x7,tA 6 (Jz b r_ f d g e i),tP 3 1 0,tP 2 0 0] a3)=>hK _ _ ?_⟩
 refine Rk 2 1 [tI 5 x7,tP 3 1 0,tP 2 0 0] ar q fun a9 au=>?_
 refine wf (XT (Aa (Rk 0 2 [tB 9 (x7 != 0),tI 5 x7,tP 3 1 0,tP 2 0 0] au q fun ba af=>?_)))
 refine wf (wC ((x7 != 0)) af (fun ad=>?_) (fun ad=>?_))
 ·
  rw [ad,XW] at H
  refine XT (Aa (Rk 0 2 [tI 4 x7] af q fun bb av=>?_))
  refine wf (wp_ret ?_)
  obtain rfl:=XZ H
  exact rt (.one (.c (.int .i64 x7))) av q rfl
 ·
  rw [ad,XV] at H
  refine wp_skip (XT (XT (Aa (Rk 0 2 [tA 12 (MC j a m k o l p),tA 11 (Jz b r_ f d g e i)] af q fun bc aw=>?_))))
  obtain⟨x13,ex13,H⟩:=Am H
  refine wl fun K hK=>?_
  refine wc [.agg (Jz b r_ f d g e i),.agg (MC j a m k o l p)] aw q (M1 n q.has r_ ((Ab (Ad z) (Ab (Ab Ac Ac) (Ab (Ad aa) (Ab (Ad ab) (Ab Ac (Ab Ac (Ab Ac Ac))))))):rep ak r_ _) a ((Ab (Ad ah) (Ab (Ad ai) (Ad aj))):rep ak a _) ex13) fun bh a5 bl am a6 u=>?_
  obtain rfl:=am
  refine⟨.one (.c (.bool x13)),rfl,fun a4 (ax:Kn 15 [(x,0),(ac,0)] [tB 13 x13,tA 12 (MC j a m k o l p),tA 11 (Jz b r_ f d g e i)] a4)=>hK _ _ ?_⟩
  refine Rk 3 1 [tB 14 (!x13)] ax u fun bd ag=>?_
  refine wf (wC ((!x13)) ag (fun ae=>?_) (fun ae=>?_))
  ·
   rw [ae,XW] at H
   refine XT (Aa (Rk 0 1 [tI 4 2] ag u fun be ay=>?_))
   refine wf (wp_ret ?_)
   obtain rfl:=XZ H
   exact rt (.one (.c (.int .i64 2))) ay u rfl
  ·
   rw [ae,XV] at H
   refine wp_skip (XT (Aa (Rk 0 1 [tI 4 0] ag u fun bf az=>?_)))
   refine wf (wp_ret ?_)
   obtain rfl:=XZ H
   exact rt (.one (.c (.int .i64 0))) az u rfl
end Go.Proofs.YtokchpjijlebiaaGreat
