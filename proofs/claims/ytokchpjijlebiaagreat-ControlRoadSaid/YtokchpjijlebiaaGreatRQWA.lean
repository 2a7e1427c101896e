/- Each call computes its plain function. -/
import Derived.Test.YtokchpjijlebiaaGreatProg
import Derived.Test.YtokchpjijlebiaaGreatRQP0
set_option linter.all false
namespace Go.Proofs.YtokchpjijlebiaaGreat
open Go Go.RowKit
set_option maxRecDepth 100000
set_option maxHeartbeats 4000000
open Rep (rep)
open KRep (kv)
open VRep (rv)
theorem Dw (n:Nat) {h:Ae} {w:World} (hh:Dk h w) (n_:Int) (low:Int) (high:Int) {r:Bool} (H:Fg n n_ low high=some r) :
  Calls Tryz.prog 45 #[.int .i64 n_,.int .i64 low,.int .i64 high] w (Dq (fun h v=>v=.bool r) h w):=by
 refine enter 15 [.c (Ws n_),.c (Ws low),.c (Ws high)] Tryz.func45 rfl rfl rfl rfl fun t hk=>?_
 have hm:=Ah.begin h w hh
 unfold Fg at H
 refine XT (Aa (Rk 0 1 [tI 0 n_,tI 1 low,tI 2 high] hk hm fun k f=>?_))
 refine wf (XT (Aa (Rk 0 4 [tB 10 (decide (n_≥low)),tI 0 n_,tI 2 high] f hm fun d b=>?_)))
 rcases Xb (decide (n_≥low)) with a | a
 ·
  rw [a,XW] at H
  have g:Kn 15 [] [tB 10 true,tI 0 n_,tI 2 high] d:=(b.setB 10 true (by rfl) a).kp
  refine Rk 4 5 [tB 6 (decide (n_≤high))] g hm fun m i=>?_
  refine wf (wp_ret ?_)
  obtain rfl:=XZ H
  exact rt (.one (.c (.bool (decide (n_≤high))))) i hm rfl
 ·
  rw [a,XV] at H
  have j:Kn 15 [] [tB 10 false,tI 0 n_,tI 2 high] d:=(b.setB 10 false (by rfl) a).kp
  refine Rk 4 5 [tB 6 false] j hm fun l e=>?_
  refine wf (wp_ret ?_)
  obtain rfl:=XZ H
  exact rt (.one (.c (.bool false))) e hm rfl
theorem GT (n:Nat) {h:Ae} {w:World} (hh:Dk h w) (r_:Af) {aP:Wx} (aW:rep h r_ aP) {r:Int} (H:F0 n r_=some r) :
  Calls Tryz.prog 21 #[.agg aP.toArray] w (Dq (fun h v=>v=.int .i64 r) h w):=by
 obtain⟨_,_,rfl,⟨a,e,rfl,p⟩,⟨_,_,rfl,⟨_,_,rfl,rfl,rfl⟩,⟨_,_,rfl,⟨b,f,rfl,q⟩,⟨_,_,rfl,⟨d,g,rfl,s⟩,⟨_,_,rfl,rfl,⟨_,_,rfl,rfl,⟨_,_,rfl,rfl,rfl⟩⟩⟩⟩⟩⟩⟩:=aW
 refine enter 7 [.agg (UB a r_ e b f d g)] Tryz.func21 rfl rfl rfl rfl fun t hk=>?_
 have hm:=Ah.begin h w hh
 unfold F0 at H
 refine XT (Aa (wl fun K hK=>?_))
 refine wb (.agg (UB a r_ e b f d g)) hk hm fun j o y (k:Kn 7 [(j,0)] [tP 1 0 0,tA 0 (UB a r_ e b f d g)] o) i=>hK _ _ ?_
 refine Rk 1 1 [tP 1 0 0] k i fun u l=>?_
 refine wf (XT (Aa (Rk 0 5 [tI 2 (Wt (((r_.lA.length:Nat):Int)+1))] l i fun x m=>?_)))
 refine wf (wp_ret ?_)
 obtain rfl:=XZ H
 exact rt (.one (.c (Ws (Wt (((r_.lA.length:Nat):Int)+1))))) m i rfl
theorem Pw (n:Nat) {h:Ae} {w:World} (hh:Dk h w) (r_:Af) {aP:Wx} (aW:rep h r_ aP) {r:Int} (H:Hh n r_=some r) :
  Calls Tryz.prog 78 #[.agg aP.toArray] w (Dq (fun h v=>v=.int .i64 r) h w):=by
 obtain⟨_,_,rfl,⟨a,e,rfl,p⟩,⟨_,_,rfl,⟨_,_,rfl,rfl,rfl⟩,⟨_,_,rfl,⟨b,f,rfl,q⟩,⟨_,_,rfl,⟨d,g,rfl,s⟩,⟨_,_,rfl,rfl,⟨_,_,rfl,rfl,⟨_,_,rfl,rfl,rfl⟩⟩⟩⟩⟩⟩⟩:=aW
 refine enter 8 [.agg (UB a r_ e b f d g)] Tryz.func78 rfl rfl rfl rfl fun t hk=>?_
 have hm:=Ah.begin h w hh
 unfold Hh at H
 refine XT (Aa (wl fun K hK=>?_))
 refine wb (.agg (UB a r_ e b f d g)) hk hm fun j o y (k:Kn 8 [(j,0)] [tP 1 0 0,tA 0 (UB a r_ e b f d g)] o) i=>hK _ _ ?_
 refine Rk 1 1 [tP 1 0 0] k i fun u l=>?_
 refine wf (XT (Aa (Rk 0 6 [tI 2 (Wt (Int.tdiv (Wt (((r_.lA.length:Nat):Int)+1)) 2))] l i fun x m=>?_)))
 refine wf (wp_ret ?_)
 obtain rfl:=XZ H
 exact rt (.one (.c (Ws (Wt (Int.tdiv (Wt (((r_.lA.length:Nat):Int)+1)) 2))))) m i rfl
theorem JG (n:Nat) {h:Ae} {w:World} (hh:Dk h w) (r_:Rg) {aP:Wx} (aW:rep h r_ aP) (most:Int) {r:Bool} (H:Hi n r_ most=some r) :
  Calls Tryz.prog 44 #[.agg aP.toArray,.int .i64 most] w (Dq (fun h v=>v=.bool r) h w):=by
 obtain⟨_,_,rfl,rfl,rfl⟩:=aW
 refine enter 16 [.agg [Ws r_.lo,Ws r_.hi],.c (Ws most)] Tryz.func44 rfl rfl rfl rfl fun t hk=>?_
 have hm:=Ah.begin h w hh
 unfold Hi at H
 refine XT (Aa (wl fun K hK=>?_))
 refine wb (.agg [Ws r_.lo,Ws r_.hi]) hk hm fun d x ag (p:Kn 16 [(d,0)] [tP 2 0 0,tA 0 [Ws r_.lo,Ws r_.hi],tI 1 most] x) e=>hK _ _ ?_
 refine Rk 1 1 [tP 2 0 0,tI 1 most] p e fun ac q=>?_
 refine wf (XT (Aa (Rk 0 4 [tI 8 r_.hi,tI 6 r_.lo,tP 2 0 0,tI 1 most] q e fun ad s=>?_)))
 obtain⟨x9,iL,H⟩:=Av H
 refine wl fun K hK=>?_
 refine wc [.c (Ws r_.lo),.c (Ws 0),.c (Ws r_.hi)] s e (Dw n e.has r_.lo 0 r_.hi iL) fun ae y af i z b=>?_
 obtain rfl:=i
 refine⟨.one (.c (.bool x9)),rfl,fun u (j:Kn 16 [(d,0)] [tB 9 x9,tI 8 r_.hi,tI 6 r_.lo,tP 2 0 0,tI 1 most] u)=>hK _ _ ?_⟩
 refine Rk 5 1 [tB 10 x9,tP 2 0 0,tI 1 most] j b fun g f=>?_
 rcases Xb (x9) with a | a
 ·
  rw [a,XW] at H
  have k:Kn 16 [(d,0)] [tB 10 true,tP 2 0 0,tI 1 most] g:=(f.setB 10 true (by rfl) a).kp
  refine Rk 6 6 [tB 4 (decide (r_.hi≤most))] k b fun aa l=>?_
  refine wf (wp_ret ?_)
  obtain rfl:=XZ H
  exact rt (.one (.c (.bool (decide (r_.hi≤most))))) l b rfl
 ·
  rw [a,XV] at H
  have m:Kn 16 [(d,0)] [tB 10 false,tP 2 0 0,tI 1 most] g:=(f.setB 10 false (by rfl) a).kp
  refine Rk 6 6 [tB 4 false] m b fun ab o=>?_
  refine wf (wp_ret ?_)
  obtain rfl:=XZ H
  exact rt (.one (.c (.bool false))) o b rfl
theorem Kr (n:Nat) {h:Ae} {w:World} (hh:Dk h w) (r_:Rg) {aP:Wx} (aW:rep h r_ aP) {r:Rg} (H:Jy n r_=some r) :
  Calls Tryz.prog 36 #[.agg aP.toArray] w (Dq (fun h v=>∃ cs,v=.agg cs.toArray∧rep h r cs) h w):=by
 obtain⟨_,_,rfl,rfl,rfl⟩:=aW
 refine enter 8 [.agg [Ws r_.lo,Ws r_.hi]] Tryz.func36 rfl rfl rfl rfl fun t hk=>?_
 have hm:=Ah.begin h w hh
 unfold Jy at H
 refine XT (Aa (wl fun K hK=>?_))
 refine wb (.agg [Ws r_.lo,Ws r_.hi]) hk hm fun a p s (j:Kn 8 [(a,0)] [tP 1 0 0,tA 0 [Ws r_.lo,Ws r_.hi]] p) m=>hK _ _ ?_
 refine wl fun K hK=>?_
 refine wa [Ws 0,Ws 0] j m fun b d u (k:Kn 8 [(a,0),(b,0)] [tP 2 1 0,tP 1 0 0,tA 0 [Ws r_.lo,Ws r_.hi]] d) c=>hK _ _ ?_
 have e:Kn 8 [(a,0),(b,0)] [tP 2 1 0,tP 1 0 0] d:=k.kp
 refine wf (XT (Aa (Rk 0 5 [tA 7 [Ws r_.lo,Ws r_.hi],tP 2 1 0] e c fun o f=>?_)))
 refine wl fun K hK=>?_
 refine EZ 1 0 (.agg [Ws r_.lo,Ws r_.hi]) [Ws r_.lo,Ws r_.hi] f c fun q g l=>hK _ _ ?_
 have i:Kn 8 [(a,0),(b,0)] [tP 2 1 0] o:=g.kp
 refine wf (wp_ret ?_)
 obtain rfl:=XZ H
 exact rt (.one (.agg [Ws r_.lo,Ws r_.hi])) i l ⟨_,rfl,((Ab Ac Ac):rep h (r_:Rg) _)⟩
abbrev G2 (aC):=([tI 4 aC,tP 1 0 0]:TM)
abbrev G3 (aH):=([tI 5 aH,tP 1 0 0]:TM)
theorem QM (n:Nat) {h:Ae} {w:World} (hh:Dk h w) (r_:Af) {aP:Wx} (aW:rep h r_ aP) {r:Int} (H:HU n r_=some r) :
  Calls Tryz.prog 19 #[.agg aP.toArray] w (Dq (fun h v=>v=.int .i64 r) h w):=by
 obtain⟨_,_,rfl,⟨p,q,rfl,g⟩,⟨_,_,rfl,⟨_,_,rfl,rfl,rfl⟩,⟨_,_,rfl,⟨i,l,rfl,d⟩,⟨_,_,rfl,⟨k,m,rfl,e⟩,⟨_,_,rfl,rfl,⟨_,_,rfl,rfl,⟨_,_,rfl,rfl,rfl⟩⟩⟩⟩⟩⟩⟩:=aW
 refine enter 128 [.agg (UB p r_ q i l k m)] Tryz.func19 rfl rfl rfl rfl fun t hk=>?_
 have hm:=Ah.begin h w hh
 unfold HU at H
 refine XT (Aa (wl fun K hK=>?_))
 refine wb (.agg (UB p r_ q i l k m)) hk hm fun a hs ki (e0:Kn 128 [(a,0)] [tP 1 0 0,tA 0 (UB p r_ q i l k m)] hs) ak=>hK _ _ ?_
 refine Rk 1 1 [tP 1 0 0] e0 ak fun i1 e4=>?_
 refine wf (XT (XT ?_))
 obtain⟨dm,bc,H⟩:=Av H
 refine A0 (fun a' w'=>∃ (co:Array Value)(av:Ae),a' = ⟨co,[]⟩∧Kn 128 [(a,0)] [tP 1 0 0,tB 15 dm] co∧Ah ⟨w,h,A6⟩ av [(a,0)] [⟨UB p r_ q i l k m,some 28⟩] [] w'∧Ae.le h av) ?_ ?_
 ·
  refine Aa (Rk 0 5 [tB 10 (decide (((r_.lB.length:Nat):Int)>4)),tP 1 0 0] e4 ak fun dw c0=>?_)
  rcases Xb (decide (((r_.lB.length:Nat):Int)>4)) with az | az
  ·
   rw [az,XW] at bc
   have fh:Kn 128 [(a,0)] [tB 10 true,tP 1 0 0] dw:=(c0.setB 10 true (by rfl) az).kp
   refine Rk 5 5 [tB 15 true,tP 1 0 0] fh ak fun jc fn=>?_
   refine wf ?_
   obtain rfl:=XZ bc
   exact XY _ ⟨_,rfl,fn.kp,ak,Ae.le_refl _⟩
  ·
   rw [az,XV] at bc
   have fo:Kn 128 [(a,0)] [tB 10 false,tP 1 0 0] dw:=(c0.setB 10 false (by rfl) az).kp
   refine Rk 5 5 [tB 15 (decide (((r_.lC.length:Nat):Int)>2)),tP 1 0 0] fo ak fun jh fu=>?_
   refine wf ?_
   obtain rfl:=XZ bc
   exact XY _ ⟨_,rfl,fu.kp,ak,Ae.le_refl _⟩
 ·
  rintro _ kt ⟨co,av,rfl,b7,y,cd⟩
  replace g:=g.mono cd
  replace d:=d.mono cd
  replace e:=e.mono cd
  refine wC (dm) b7 (fun b0=>?_) (fun b0=>?_)
  ·
   rw [b0,XW] at H
   refine XT (Aa (Rk 0 1 [tI 2 3] b7 y fun jq f7=>?_))
   refine wf (wp_ret ?_)
   obtain rfl:=XZ H
   exact rt (.one (.c (Ws 3))) f7 y rfl
  ·
   rw [b0,XV] at H
   refine wp_skip (XT (XT ?_))
   obtain⟨dr,f,H⟩:=Av H
   refine A0 (fun a' w'=>∃ (cu:Array Value)(ax:Ae),a' = ⟨cu,[]⟩∧Kn 128 [(a,0)] [tP 1 0 0,tB 57 dr] cu∧Ah ⟨w,h,A6⟩ ax [(a,0)] [⟨UB p r_ q i l k m,some 28⟩] [] w'∧Ae.le av ax) ?_ ?_
   ·
    refine Aa (Rk 0 6 [tB 21 ((Int.tmod ((r_.lA.length:Nat):Int) 2) == 0),tP 1 0 0] b7 y fun dz c9=>?_)
    rcases Xb (((Int.tmod ((r_.lA.length:Nat):Int) 2) == 0)) with a2 | a2
    ·
     rw [a2,XW] at f
     have gf:Kn 128 [(a,0)] [tB 21 true,tP 1 0 0] dz:=(c9.setB 21 true (by rfl) a2).kp
     refine Rk 6 36 [tB 57 true,tP 1 0 0] gf y fun jz gg=>?_
     refine wf ?_
     obtain rfl:=XZ f
     exact XY _ ⟨_,rfl,gg.kp,y,Ae.le_refl _⟩
    ·
     rw [a2,XV] at f
     have gh:Kn 128 [(a,0)] [tB 21 false,tP 1 0 0] dz:=(c9.setB 21 false (by rfl) a2).kp
     refine Rk 6 6 [tB 27 (decide (((r_.lA.length:Nat):Int)>7)),tP 1 0 0] gh y fun d0 da=>?_
     rcases Xb (decide (((r_.lA.length:Nat):Int)>7)) with a3 | a3
     ·
      rw [a3,XW] at f
      have gi:Kn 128 [(a,0)] [tB 27 true,tP 1 0 0] d0:=(da.setB 27 true (by rfl) a3).kp
      refine Rk 12 30 [tB 57 true,tP 1 0 0] gi y fun j0 gj=>?_
      refine wf ?_
      obtain rfl:=XZ f
      exact XY _ ⟨_,rfl,gj.kp,y,Ae.le_refl _⟩
     ·
      rw [a3,XV] at f
      have gk:Kn 128 [(a,0)] [tB 27 false,tP 1 0 0] d0:=(da.setB 27 false (by rfl) a3).kp
      refine Rk 12 2 [tA 29 [Ws r_.turn.lo,Ws r_.turn.hi],tB 27 false,tP 1 0 0] gk y fun j1 db=>?_
      obtain⟨cQ,ex30,f⟩:=Av f
      refine Bi _ rfl (Aj db (by kernel_rfl)) fun K hK=>?_
      refine wc [.agg [Ws r_.turn.lo,Ws r_.turn.hi],.c (Ws 300)] db y (JG n y.has r_.turn ((Ab Ac Ac):rep av r_.turn _) 300 ex30) fun ke io kz ec ab an=>?_
      replace g:=g.mono ab
      replace d:=d.mono ab
      replace e:=e.mono ab
      obtain rfl:=ec
      refine⟨.one (.c (.bool cQ)),rfl,fun h6 (gl:Kn 128 [(a,0)] [tB 30 cQ,tA 29 [Ws r_.turn.lo,Ws r_.turn.hi],tB 27 false,tP 1 0 0] h6)=>hK _ _ ?_⟩
      refine Rk 15 3 [tB 33 (!cQ),tP 1 0 0] gl an fun d1 dc=>?_
      rcases Xb ((!cQ)) with a4 | a4
      ·
       rw [a4,XW] at f
       have gm:Kn 128 [(a,0)] [tB 33 true,tP 1 0 0] d1:=(dc.setB 33 true (by rfl) a4).kp
       refine Rk 18 24 [tB 57 true,tP 1 0 0] gm an fun j2 gn=>?_
       refine wf ?_
       obtain rfl:=XZ f
       exact XY _ ⟨_,rfl,gn.kp,an,ab⟩
      ·
       rw [a4,XV] at f
       have gp:Kn 128 [(a,0)] [tB 33 false,tP 1 0 0] d1:=(dc.setB 33 false (by rfl) a4).kp
       refine Rk 18 2 [tI 35 r_.lI,tB 33 false,tP 1 0 0] gp an fun j3 dd=>?_
       obtain⟨bZ,iV,f⟩:=Av f
       refine Bi _ rfl (Aj dd (by kernel_rfl)) fun K hK=>?_
       refine wc [.c (Ws r_.lI),.c (Ws 1),.c (Ws 30)] dd an (Dw n an.has r_.lI 1 30 iV) fun kf ip k0 ed ag ao=>?_
       replace g:=g.mono ag
       replace d:=d.mono ag
       replace e:=e.mono ag
       obtain rfl:=ed
       refine⟨.one (.c (.bool bZ)),rfl,fun h7 (gq:Kn 128 [(a,0)] [tB 36 bZ,tI 35 r_.lI,tB 33 false,tP 1 0 0] h7)=>hK _ _ ?_⟩
       refine Rk 21 3 [tB 39 (!bZ),tP 1 0 0] gq ao fun d2 de=>?_
       rcases Xb ((!bZ)) with a5 | a5
       ·
        rw [a5,XW] at f
        have gr:Kn 128 [(a,0)] [tB 39 true,tP 1 0 0] d2:=(de.setB 39 true (by rfl) a5).kp
        refine Rk 24 18 [tB 57 true,tP 1 0 0] gr ao fun j4 gs=>?_
        refine wf ?_
        obtain rfl:=XZ f
        exact XY _ ⟨_,rfl,gs.kp,ao,XU ab ag⟩
       ·
        rw [a5,XV] at f
        have gu:Kn 128 [(a,0)] [tB 39 false,tP 1 0 0] d2:=(de.setB 39 false (by rfl) a5).kp
        refine Rk 24 2 [tI 41 r_.gap,tB 39 false,tP 1 0 0] gu ao fun j5 df=>?_
        obtain⟨cK,iW,f⟩:=Av f
        refine Bi _ rfl (Aj df (by kernel_rfl)) fun K hK=>?_
        refine wc [.c (Ws r_.gap),.c (Ws 0),.c (Ws 2000)] df ao (Dw n ao.has r_.gap 0 2000 iW) fun kg iq k1 ee aj ap=>?_
        replace g:=g.mono aj
        replace d:=d.mono aj
        replace e:=e.mono aj
        obtain rfl:=ee
        refine⟨.one (.c (.bool cK)),rfl,fun h8 (gv:Kn 128 [(a,0)] [tB 42 cK,tI 41 r_.gap,tB 39 false,tP 1 0 0] h8)=>hK _ _ ?_⟩
        refine Rk 27 3 [tB 45 (!cK),tP 1 0 0] gv ap fun d3 dg=>?_
        rcases Xb ((!cK)) with a6 | a6
        ·
         rw [a6,XW] at f
         have er:Kn 128 [(a,0)] [tB 45 true,tP 1 0 0] d3:=(dg.setB 45 true (by rfl) a6).kp
         refine Rk 30 12 [tB 57 true,tP 1 0 0] er ap fun iu es=>?_
         refine wf ?_
         obtain rfl:=XZ f
         exact XY _ ⟨_,rfl,es.kp,ap,XU ab (XU ag aj)⟩
        ·
         rw [a6,XV] at f
         have et:Kn 128 [(a,0)] [tB 45 false,tP 1 0 0] d3:=(dg.setB 45 false (by rfl) a6).kp
         refine Rk 30 4 [tI 49 r_.to_,tI 47 r_.fr,tB 45 false,tP 1 0 0] et ap fun iv cy=>?_
         obtain⟨x50,ex50,f⟩:=Av f
         refine Bi _ rfl (Aj cy (by kernel_rfl)) fun K hK=>?_
         refine wc [.c (Ws r_.fr),.c (Ws 0),.c (Ws r_.to_)] cy ap (Dw n ap.has r_.fr 0 r_.to_ ex50) fun j6 ig kh d4 dh ba=>?_
         obtain rfl:=d4
         refine⟨.one (.c (.bool x50)),rfl,fun ht (eu:Kn 128 [(a,0)] [tB 50 x50,tI 49 r_.to_,tI 47 r_.fr,tB 45 false,tP 1 0 0] ht)=>hK _ _ ?_⟩
         refine Rk 35 3 [tB 53 (!x50),tP 1 0 0] eu ba fun dv cz=>?_
         rcases Xb ((!x50)) with ay | ay
         ·
          rw [ay,XW] at f
          have ev:Kn 128 [(a,0)] [tB 53 true,tP 1 0 0] dv:=(cz.setB 53 true (by rfl) ay).kp
          refine Rk 38 4 [tB 57 true,tP 1 0 0] ev ba fun iw ew=>?_
          refine wf ?_
          obtain rfl:=XZ f
          exact XY _ ⟨_,rfl,ew.kp,ba,XU ab (XU ag (XU aj dh))⟩
         ·
          rw [ay,XV] at f
          have ex:Kn 128 [(a,0)] [tB 53 false,tP 1 0 0] dv:=(cz.setB 53 false (by rfl) ay).kp
          refine Rk 38 4 [tB 57 (decide (r_.to_>2000)),tP 1 0 0] ex ba fun ix ey=>?_
          refine wf ?_
          obtain rfl:=XZ f
          exact XY _ ⟨_,rfl,ey.kp,ba,XU ab (XU ag (XU aj dh))⟩
   ·
    rintro _ kj ⟨cu,ax,rfl,b2,bk,ca⟩
    replace g:=g.mono ca
    replace d:=d.mono ca
    replace e:=e.mono ca
    refine wC (dr) b2 (fun bt=>?_) (fun bt=>?_)
    ·
     rw [bt,XW] at H
     refine XT (Aa (Rk 0 1 [tI 2 1] b2 bk fun iy ez=>?_))
     refine wf (wp_ret ?_)
     obtain rfl:=XZ H
     exact rt (.one (.c (Ws 1))) ez bk rfl
    ·
     rw [bt,XV] at H
     refine wp_skip (XT (XT (Aa (Rk 0 1 [tI 3 0,tP 1 0 0] b2 bk fun iz e1=>?_))))
     refine wf ?_
     obtain⟨dl,cv,H⟩:=Av H
     refine A0 (fun a' w'=>∃ (ds:Unit)(cm:Array Value)(au:Ae),a' = ⟨cm,[]⟩∧Kn 128 [(a,0)] [tP 1 0 0] cm∧Ah ⟨w,h,A6⟩ au [(a,0)] [⟨UB p r_ q i l k m,some 28⟩] [] w'∧Ae.le ax au∧dl=.go ds) ?_ ?_
     ·
      refine wp_block ?_
      refine Au (fun hp a' w'=>∃ (aA:Int)(cn:Array Value)(bd:Ae),a' = ⟨cn,[]⟩∧Kn 128 [(a,0)] [tI 3 aA,tP 1 0 0] cn∧Ah ⟨w,h,A6⟩ bd [(a,0)] [⟨UB p r_ q i l k m,some 28⟩] [] w'∧Ae.le ax bd∧Eb hp r_ aA=some dl) n ?_ ?_
      ·
       exact XY 0 ⟨_,_,rfl,e1.kp,bk,Ae.le_refl _,cv⟩
      ·
       rintro bo _ kk ⟨aA,cn,bd,rfl,e2,bl,a7,x⟩
       clear cv
       obtain _ | bo:=bo
       ·
        rw [Eb] at x; cases x
       rw [Eb] at x
       replace g:=g.mono a7
       replace d:=d.mono a7
       replace e:=e.mono a7
       refine XT (XT (Aa (Rk 0 5 [tB 62 (decide (aA<((r_.lA.length:Nat):Int))),tI 3 aA,tP 1 0 0] e2 bl fun i0 b3=>?_)))
       refine wf (wC (decide (aA<((r_.lA.length:Nat):Int))) b3 (fun bu=>?_) (fun bu=>?_))
       ·
        rw [bu,XW] at x
        refine wp_skip (XT (wp_block (XT (Aa (Rk 0 3 [tI 67 aA,tS 66 p r_.lA.length q,tI 3 aA,tP 1 0 0] b3 bl fun i2 e3=>?_)))))
        obtain⟨dW,jY,x⟩:=Av x
        obtain⟨gz,g4,hf⟩:=Ai jY
        obtain⟨bp,cj,h9,eg,g9,el⟩:=g.get (by decide) hf
        obtain⟨_,_,rfl,rfl,rfl⟩:=g9
        have ce:=bl.addPlc (b:=bp) (o:=cj+Wv aA*2) (cs:=[Ws dW.lo,Ws dW.hi]) (fun j c hj=>el j _ (Ak hj)) rfl (by kernel_rfl) (by kernel_rfl)
        refine Bl 3 (aA) rfl rfl (rfl) rfl (by decide) e3 (by rfl) (by rfl) (by rfl) eg (by rfl) gz g4 (by kernel_rfl) fun hu (e5:Kn 128 [(a,0),(bp,cj+Wv aA*2)] [tP 68 1 0,tI 67 aA,tS 66 p r_.lA.length q,tI 3 aA,tP 1 0 0] hu)=>?_
        refine Rk 4 1 [tA 69 [Ws dW.lo,Ws dW.hi],tI 3 aA,tP 1 0 0] e5 ce fun i3 e6=>?_
        obtain⟨fE,iX,x⟩:=Av x
        refine wl fun K hK=>?_
        refine wc [.agg [Ws dW.lo,Ws dW.hi],.c (Ws 300)] e6 ce (JG bo ce.has dW ((Ab Ac Ac):rep bd dW _) 300 iX) fun j7 ih kl d5 gw bb=>?_
        obtain rfl:=d5
        refine⟨.one (.c (.bool fE)),rfl,fun hv (e7:Kn 128 [(a,0),(bp,cj+Wv aA*2)] [tB 70 fE,tA 69 [Ws dW.lo,Ws dW.hi],tI 3 aA,tP 1 0 0] hv)=>hK _ _ ?_⟩
        refine Rk 6 1 [tB 71 (!fE),tI 3 aA,tP 1 0 0] e7 bb fun i4 b4=>?_
        refine wf (wC ((!fE)) b4 (fun bv=>?_) (fun bv=>?_))
        ·
         rw [bv,XW] at x
         refine XT (Aa (Rk 0 1 [tI 2 1] b4 bb fun i5 e8=>?_))
         refine wf (wp_ret ?_)
         obtain rfl:=XZ x
         obtain rfl:=XZ H
         exact rt (.one (.c (Ws 1))) e8 bb rfl
        ·
         rw [bv,XV] at x
         refine wp_skip (Aa (Rk 0 3 [tI 3 (Wt (aA+1)),tP 1 0 0] b4 bb fun i6 e9=>?_))
         refine wf ?_
         exact XY bo ⟨Xc _,XY (Wt (aA+1)) ⟨_,_,rfl,(e9.keep [3,1] (by rfl)).cut 1 (by kernel_rfl),bb.cutPl 1 (by kernel_rfl),XU a7 gw,x⟩⟩
       ·
        rw [bu,XV] at x
        refine wp_exit ?_
        obtain rfl:=XZ x
        exact XY () ⟨_,_,rfl,b3.kp,bl,a7,rfl⟩
     ·
      rintro _ km ⟨ds,cm,au,rfl,fa,di,cb,rfl⟩
      rw [Ex.bind_go] at H
      replace g:=g.mono cb
      replace d:=d.mono cb
      replace e:=e.mono cb
      refine XT (XT (Aa (Rk 0 1 [tI 4 0,tP 1 0 0] fa di fun i7 fb=>?_)))
      refine wf ?_
      obtain⟨dp,cw,H⟩:=Av H
      refine A0 (fun a' w'=>∃ (dt:Unit)(cp:Array Value)(aw:Ae),a' = ⟨cp,[]⟩∧Kn 128 [(a,0)] [tP 1 0 0] cp∧Ah ⟨w,h,A6⟩ aw [(a,0)] [⟨UB p r_ q i l k m,some 28⟩] [] w'∧Ae.le au aw∧dp=.go dt) ?_ ?_
      ·
       refine wp_block ?_
       refine Au (fun hq a' w'=>∃ (aC:Int)(cq:Array Value)(be:Ae),a' = ⟨cq,[]⟩∧Kn 128 [(a,0)] (G2 aC) cq∧Ah ⟨w,h,A6⟩ be [(a,0)] [⟨UB p r_ q i l k m,some 28⟩] [] w'∧Ae.le au be∧Ec hq r_ aC=some dp) n ?_ ?_
       ·
        exact XY 0 ⟨_,_,rfl,fb.kp,di,Ae.le_refl _,cw⟩
       ·
        rintro aq _ kn ⟨aC,cq,be,rfl,fc,ah,a8,s⟩
        clear cw
        obtain _ | aq:=aq
        ·
         rw [Ec] at s; cases s
        rw [Ec] at s
        replace g:=g.mono a8
        replace d:=d.mono a8
        replace e:=e.mono a8
        refine XT (XT (Aa (Rk 0 5 ((tB 76 (decide (aC<((r_.lB.length:Nat):Int))))::(G2 aC)) fc ah fun i8 b5=>?_)))
        refine wf (wC (decide (aC<((r_.lB.length:Nat):Int))) b5 (fun bw=>?_) (fun bw=>?_))
        ·
         rw [bw,XW] at s
         refine wp_skip (XT (wp_block (XT (Am (by kernel_rfl) ?_))))
         replace ah:=ah.drew
         refine Ao [] [(a,0)] [⟨UB p r_ q i l k m,some 28⟩] ?_
         refine Dr [0,1,2] [2,1,0] ((tI 81 aC)::(tS 80 i r_.lB.length l)::(G2 aC)) b5 ah fun i9 fd=>?_
         obtain⟨eK,jZ,s⟩:=Av s
         obtain⟨g0,g5,hg⟩:=Ai jZ
         obtain⟨z,ae,ia,eh,ha,em⟩:=d.get (by decide) hg
         obtain⟨_,_,rfl,rfl,⟨_,_,rfl,rfl,rfl⟩⟩:=ha
         have cf:=ah.addPlc (b:=z) (o:=ae+Wv aC*3) (cs:=[Ws eK.stop,Ws eK.tm.lo,Ws eK.tm.hi]) (fun j c hj=>em j _ (Ak hj)) rfl (by kernel_rfl) (by kernel_rfl)
         refine Az 3 (aC) [Ws eK.stop,Ws eK.tm.lo,Ws eK.tm.hi] (fun _ _ _ _ _ h=>h) rfl rfl (rfl) rfl (by decide) (by kernel_rfl) (by kernel_rfl) fd ah.plOk (by rfl) (by rfl) (by rfl) eh (by rfl) g0 g5 (by kernel_rfl) fun hw (fe:Kn 128 [(a,0),(z,ae+Wv aC*3)] ((tP 82 1 0)::(tI 81 aC)::(tS 80 i r_.lB.length l)::(G2 aC)) hw)=>?_
         refine Dr [4,5,6] (dn 6) ((tA 85 (UB p r_ q i l k m))::(tI 84 eK.stop)::(G2 aC)) fe cf fun ja ff=>?_
         obtain⟨dI,jM,s⟩:=Av s
         refine Dl 7 fun K hK=>?_
         refine wc [.agg (UB p r_ q i l k m)] ff cf (GT aq cf.has r_ ((Ab (Ad g) (Ab (Ab Ac Ac) (Ab (Ad d) (Ab (Ad e) (Ab Ac (Ab Ac (Ab Ac Ac))))))):rep be r_ _) jM) fun j8 ii ko d6 bg bm=>?_
         obtain rfl:=d6
         refine⟨.one (.c (Ws dI)),rfl,fun hx (fg:Kn 128 [(a,0),(z,ae+Wv aC*3)] ((tI 86 dI)::(tA 85 (UB p r_ q i l k m))::(tI 84 eK.stop)::(G2 aC)) hx)=>hK _ _ bm.plOk ?_⟩
         refine Dr [8] (dn 8) ((tI 87 (Wt (dI-1)))::(tI 84 eK.stop)::(G2 aC)) fg bm fun jb fi=>?_
         obtain⟨x88,ex88,s⟩:=Av s
         refine Dl 9 fun K hK=>?_
         refine wc [.c (Ws eK.stop),.c (Ws 0),.c (Ws (Wt (dI-1)))] fi bm (Dw aq bm.has eK.stop 0 (Wt (dI-1)) ex88) fun j9 ef kq d7 bh ac=>?_
         replace g:=g.mono (XU bg bh)
         replace d:=d.mono (XU bg bh)
         replace e:=e.mono (XU bg bh)
         obtain rfl:=d7
         refine⟨.one (.c (.bool x88)),rfl,fun hy (fj:Kn 128 [(a,0),(z,ae+Wv aC*3)] ((tB 88 x88)::(tI 87 (Wt (dI-1)))::(tI 84 eK.stop)::(G2 aC)) hy)=>hK _ _ ac.plOk ?_⟩
         refine Dr [10,11] (dn 11) ((tB 90 (!x88))::(G2 aC)) fj ac fun dx c1=>?_
         rcases Xb ((!x88)) with a0 | a0
         ·
          rw [a0,XW] at s
          have fk:Kn 128 [(a,0),(z,ae+Wv aC*3)] ((tB 90 true)::(G2 aC)) dx:=(c1.setB 90 true (by rfl) a0).kp
          refine Dr [12,13,14,15,16,17,18,19,20] (dn 20) ((tB 99 true)::(G2 aC)) fk ac fun jd c2=>?_
          refine A2 (by kernel_rfl) (wC true c2 (fun hb=>?_) (fun hb=>?_))
          rotate_left
          ·
           cases hb
          refine XT (Aa (Rk 0 1 [tI 2 1] c2 ac fun je fl=>?_))
          refine wf (wp_ret ?_)
          obtain rfl:=XZ s
          obtain rfl:=XZ H
          exact rt (.one (.c (Ws 1))) fl ac rfl
         ·
          rw [a0,XV] at s
          have fm:Kn 128 [(a,0),(z,ae+Wv aC*3)] ((tB 90 false)::(G2 aC)) dx:=(c1.setB 90 false (by rfl) a0).kp
          refine Dr [12,13,14] (dn 14) ((tI 93 aC)::(tS 92 i r_.lB.length l)::(tB 90 false)::(G2 aC)) fm ac fun jf c3=>?_
          obtain⟨cC,ex94,s⟩:=Av s
          obtain⟨g1,g6,hl⟩:=Ai ex94
          obtain⟨bq,ck,ib,ei,hc,en⟩:=d.get (by decide) hl
          obtain⟨_,_,rfl,rfl,⟨_,_,rfl,rfl,rfl⟩⟩:=hc
          have cg:=ac.addPlc (b:=bq) (o:=ck+Wv aC*3) (cs:=[Ws cC.stop,Ws cC.tm.lo,Ws cC.tm.hi]) (fun j c hj=>en j _ (Ak hj)) rfl (by kernel_rfl) (by kernel_rfl)
          refine Az 15 (aC) [Ws cC.stop,Ws cC.tm.lo,Ws cC.tm.hi] (fun _ _ _ _ _ h=>h) rfl rfl (Aj c3 (by kernel_rfl)) rfl (by decide) (by kernel_rfl) (by kernel_rfl) c3 ac.plOk (by rfl) (by rfl) (by rfl) ei (by rfl) g1 g6 (by kernel_rfl) fun hz (fp:Kn 128 [(a,0),(z,ae+Wv aC*3),(bq,ck+Wv aC*3)] ((tP 94 2 0)::(tI 93 aC)::(tS 92 i r_.lB.length l)::(tB 90 false)::(G2 aC)) hz)=>?_
          refine Dr [16,17] (dn 17) ((tA 96 [Ws cC.tm.lo,Ws cC.tm.hi])::(tB 90 false)::(G2 aC)) fp cg fun jg c4=>?_
          obtain⟨eB,ex97,s⟩:=Av s
          refine EJ 18 rfl (by kernel_rfl) (by decide) (Aj c4 (by kernel_rfl)) fun K hK=>?_
          refine wc [.agg [Ws cC.tm.lo,Ws cC.tm.hi],.c (Ws 2000)] c4 cg (JG aq cg.has cC.tm ((Ab Ac Ac):rep ef cC.tm _) 2000 ex97) fun ka ij kr d8 gx al=>?_
          obtain rfl:=d8
          refine⟨.one (.c (.bool eB)),rfl,fun h0 (fq:Kn 128 [(a,0),(z,ae+Wv aC*3),(bq,ck+Wv aC*3)] ((tB 97 eB)::(tA 96 [Ws cC.tm.lo,Ws cC.tm.hi])::(tB 90 false)::(G2 aC)) h0)=>hK _ _ al.plOk ?_⟩
          refine Dr [19,20] (dn 20) ((tB 99 (!eB))::(G2 aC)) fq al fun ji b6=>?_
          refine A2 (by kernel_rfl) (wC ((!eB)) b6 (fun bx=>?_) (fun bx=>?_))
          ·
           rw [bx,XW] at s
           refine XT (Aa (Rk 0 1 [tI 2 1] b6 al fun jj fs=>?_))
           refine wf (wp_ret ?_)
           obtain rfl:=XZ s
           obtain rfl:=XZ H
           exact rt (.one (.c (Ws 1))) fs al rfl
          ·
           rw [bx,XV] at s
           refine wp_skip (Aa (Rk 0 3 [tI 4 (Wt (aC+1)),tP 1 0 0] b6 al fun jk ft=>?_))
           refine wf ?_
           exact XY aq ⟨Xc _,XY (Wt (aC+1)) ⟨_,_,rfl,(ft.keep [4,1] (by rfl)).cut 1 (by kernel_rfl),al.cutPl 1 (by kernel_rfl),XU a8 (XU bg (XU bh gx)),s⟩⟩
        ·
         rw [bw,XV] at s
         refine wp_exit ?_
         obtain rfl:=XZ s
         exact XY () ⟨_,_,rfl,b5.kp,ah,a8,rfl⟩
      ·
       rintro _ ks ⟨dt,cp,aw,rfl,fv,dj,cc,rfl⟩
       rw [Ex.bind_go] at H
       replace g:=g.mono cc
       replace d:=d.mono cc
       replace e:=e.mono cc
       refine XT (XT (Aa (Rk 0 1 [tI 5 0,tP 1 0 0] fv dj fun jl fw=>?_)))
       refine wf ?_
       obtain⟨dq,cx,H⟩:=Av H
       refine A0 (fun a' w'=>∃ (du:Unit)(cr:Array Value)(bs:Ae),a' = ⟨cr,[]⟩∧Kn 128 [(a,0)] [] cr∧Ah ⟨w,h,A6⟩ bs [(a,0)] [⟨UB p r_ q i l k m,some 28⟩] [] w'∧Ae.le aw bs∧dq=.go du) ?_ ?_
       ·
        refine wp_block ?_
        refine Au (fun hr a' w'=>∃ (aH:Int)(ct:Array Value)(bf:Ae),a' = ⟨ct,[]⟩∧Kn 128 [(a,0)] (G3 aH) ct∧Ah ⟨w,h,A6⟩ bf [(a,0)] [⟨UB p r_ q i l k m,some 28⟩] [] w'∧Ae.le aw bf∧Ed hr r_ aH=some dq) n ?_ ?_
        ·
         exact XY 0 ⟨_,_,rfl,fw.kp,dj,Ae.le_refl _,cx⟩
        ·
         rintro ar _ ku ⟨aH,ct,bf,rfl,fx,ai,a9,u⟩
         clear cx
         obtain _ | ar:=ar
         ·
          rw [Ed] at u; cases u
         rw [Ed] at u
         replace g:=g.mono a9
         replace d:=d.mono a9
         replace e:=e.mono a9
         refine XT (XT (Aa (Rk 0 5 ((tB 104 (decide (aH<((r_.lC.length:Nat):Int))))::(G3 aH)) fx ai fun jm b8=>?_)))
         refine wf (wC (decide (aH<((r_.lC.length:Nat):Int))) b8 (fun bz=>?_) (fun bz=>?_))
         ·
          rw [bz,XW] at u
          refine wp_skip (XT (wp_block (XT (Am (by kernel_rfl) ?_))))
          replace ai:=ai.drew
          refine Ao [] [(a,0)] [⟨UB p r_ q i l k m,some 28⟩] ?_
          refine Dr [0,1,2] [2,1,0] ((tI 109 aH)::(tS 108 k r_.lC.length m)::(G3 aH)) b8 ai fun jn fy=>?_
          obtain⟨bX,iE,u⟩:=Av u
          obtain⟨g2,g7,hn⟩:=Ai iE
          obtain⟨aa,af,ic,ej,hd,eo⟩:=e.get (by decide) hn
          obtain⟨_,_,rfl,rfl,rfl⟩:=hd
          have ch:=ai.addPlc (b:=aa) (o:=af+Wv aH*2) (cs:=[Ws bX.stop,Ws bX.tm]) (fun j c hj=>eo j _ (Ak hj)) rfl (by kernel_rfl) (by kernel_rfl)
          refine Az 3 (aH) [Ws bX.stop,Ws bX.tm] (fun _ _ _ _ _ h=>h) rfl rfl (rfl) rfl (by decide) (by kernel_rfl) (by kernel_rfl) fy ai.plOk (by rfl) (by rfl) (by rfl) ej (by rfl) g2 g7 (by kernel_rfl) fun h1 (fz:Kn 128 [(a,0),(aa,af+Wv aH*2)] ((tP 110 1 0)::(tI 109 aH)::(tS 108 k r_.lC.length m)::(G3 aH)) h1)=>?_
          refine Dr [4,5,6] (dn 6) ((tA 113 (UB p r_ q i l k m))::(tI 112 bX.stop)::(G3 aH)) fz ch fun jo f0=>?_
          obtain⟨iA,ex114,u⟩:=Av u
          refine Dl 7 fun K hK=>?_
          refine wc [.agg (UB p r_ q i l k m)] f0 ch (GT ar ch.has r_ ((Ab (Ad g) (Ab (Ab Ac Ac) (Ab (Ad d) (Ab (Ad e) (Ab Ac (Ab Ac (Ab Ac Ac))))))):rep bf r_ _) ex114) fun kb ik kv d9 bi bn=>?_
          obtain rfl:=d9
          refine⟨.one (.c (Ws iA)),rfl,fun h2 (f1:Kn 128 [(a,0),(aa,af+Wv aH*2)] ((tI 114 iA)::(tA 113 (UB p r_ q i l k m))::(tI 112 bX.stop)::(G3 aH)) h2)=>hK _ _ bn.plOk ?_⟩
          refine Dr [8] (dn 8) ((tI 115 (Wt (iA-1)))::(tI 112 bX.stop)::(G3 aH)) f1 bn fun jp f2=>?_
          obtain⟨gG,kA,u⟩:=Av u
          refine Dl 9 fun K hK=>?_
          refine wc [.c (Ws bX.stop),.c (Ws 0),.c (Ws (Wt (iA-1)))] f2 bn (Dw ar bn.has bX.stop 0 (Wt (iA-1)) kA) fun kc il kw ea bj ad=>?_
          replace g:=g.mono (XU bi bj)
          replace d:=d.mono (XU bi bj)
          replace e:=e.mono (XU bi bj)
          obtain rfl:=ea
          refine⟨.one (.c (.bool gG)),rfl,fun h3 (f3:Kn 128 [(a,0),(aa,af+Wv aH*2)] ((tB 116 gG)::(tI 115 (Wt (iA-1)))::(tI 112 bX.stop)::(G3 aH)) h3)=>hK _ _ ad.plOk ?_⟩
          refine Dr [10,11] (dn 11) ((tB 118 (!gG))::(G3 aH)) f3 ad fun dy c5=>?_
          rcases Xb ((!gG)) with a1 | a1
          ·
           rw [a1,XW] at u
           have f4:Kn 128 [(a,0),(aa,af+Wv aH*2)] ((tB 118 true)::(G3 aH)) dy:=(c5.setB 118 true (by rfl) a1).kp
           refine Dr [12,13,14,15,16,17,18,19,20] (dn 20) ((tB 127 true)::(G3 aH)) f4 ad fun jr c6=>?_
           refine A2 (by kernel_rfl) (wC true c6 (fun hb=>?_) (fun hb=>?_))
           rotate_left
           ·
            cases hb
           refine XT (Aa (Rk 0 1 [tI 2 1] c6 ad fun js f5=>?_))
           refine wf (wp_ret ?_)
           obtain rfl:=XZ u
           obtain rfl:=XZ H
           exact rt (.one (.c (Ws 1))) f5 ad rfl
          ·
           rw [a1,XV] at u
           have f6:Kn 128 [(a,0),(aa,af+Wv aH*2)] ((tB 118 false)::(G3 aH)) dy:=(c5.setB 118 false (by rfl) a1).kp
           refine Dr [12,13,14] (dn 14) ((tI 121 aH)::(tS 120 k r_.lC.length m)::(tB 118 false)::(G3 aH)) f6 ad fun jt c7=>?_
           obtain⟨gH,ex122,u⟩:=Av u
           obtain⟨g3,g8,ho⟩:=Ai ex122
           obtain⟨br,cl,ie,ek,he,ep⟩:=e.get (by decide) ho
           obtain⟨_,_,rfl,rfl,rfl⟩:=he
           have ci:=ad.addPlc (b:=br) (o:=cl+Wv aH*2) (cs:=[Ws gH.stop,Ws gH.tm]) (fun j c hj=>ep j _ (Ak hj)) rfl (by kernel_rfl) (by kernel_rfl)
           refine Az 15 (aH) [Ws gH.stop,Ws gH.tm] (fun _ _ _ _ _ h=>h) rfl rfl (Aj c7 (by kernel_rfl)) rfl (by decide) (by kernel_rfl) (by kernel_rfl) c7 ad.plOk (by rfl) (by rfl) (by rfl) ek (by rfl) g3 g8 (by kernel_rfl) fun h4 (f8:Kn 128 [(a,0),(aa,af+Wv aH*2),(br,cl+Wv aH*2)] ((tP 122 2 0)::(tI 121 aH)::(tS 120 k r_.lC.length m)::(tB 118 false)::(G3 aH)) h4)=>?_
           refine Dr [16,17] (dn 17) ((tI 124 gH.tm)::(tB 118 false)::(G3 aH)) f8 ci fun ju c8=>?_
           obtain⟨fS,kB,u⟩:=Av u
           refine EJ 18 rfl (by kernel_rfl) (by decide) (Aj c8 (by kernel_rfl)) fun K hK=>?_
           refine wc [.c (Ws gH.tm),.c (Ws 0),.c (Ws 2000)] c8 ci (Dw ar ci.has gH.tm 0 2000 kB) fun kd im kx eb gy am=>?_
           obtain rfl:=eb
           refine⟨.one (.c (.bool fS)),rfl,fun h5 (f9:Kn 128 [(a,0),(aa,af+Wv aH*2),(br,cl+Wv aH*2)] ((tB 125 fS)::(tI 124 gH.tm)::(tB 118 false)::(G3 aH)) h5)=>hK _ _ am.plOk ?_⟩
           refine Dr [19,20] (dn 20) ((tB 127 (!fS))::(G3 aH)) f9 am fun jv b9=>?_
           refine A2 (by kernel_rfl) (wC ((!fS)) b9 (fun b1=>?_) (fun b1=>?_))
           ·
            rw [b1,XW] at u
            refine XT (Aa (Rk 0 1 [tI 2 1] b9 am fun jw ga=>?_))
            refine wf (wp_ret ?_)
            obtain rfl:=XZ u
            obtain rfl:=XZ H
            exact rt (.one (.c (Ws 1))) ga am rfl
           ·
            rw [b1,XV] at u
            refine wp_skip (Aa (Rk 0 3 [tI 5 (Wt (aH+1)),tP 1 0 0] b9 am fun jx gb=>?_))
            refine wf ?_
            exact XY ar ⟨Xc _,XY (Wt (aH+1)) ⟨_,_,rfl,(gb.keep [5,1] (by rfl)).cut 1 (by kernel_rfl),am.cutPl 1 (by kernel_rfl),XU a9 (XU bi (XU bj gy)),u⟩⟩
         ·
          rw [bz,XV] at u
          refine wp_exit ?_
          obtain rfl:=XZ u
          exact XY () ⟨_,_,rfl,b8.kp,ai,a9,rfl⟩
       ·
        rintro _ ky ⟨du,cr,bs,rfl,gc,dk,ir,rfl⟩
        rw [Ex.bind_go] at H
        refine XT (Aa (Rk 0 1 [tI 2 0] gc dk fun jy gd=>?_))
        refine wf (wp_ret ?_)
        obtain rfl:=XZ H
        exact rt (.one (.c (Ws 0))) gd dk rfl
theorem RL (n:Nat) {h:Ae} {w:World} (hh:Dk h w) (r_:Af) {aP:Wx} (aW:rep h r_ aP) {r:Bool} (H:Lw n r_=some r) :
  Calls Tryz.prog 14 #[.agg aP.toArray] w (Dq (fun h v=>v=.bool r) h w):=by
 obtain⟨_,_,rfl,⟨b,g,rfl,af⟩,⟨_,_,rfl,⟨_,_,rfl,rfl,rfl⟩,⟨_,_,rfl,⟨d,i,rfl,ag⟩,⟨_,_,rfl,⟨e,j,rfl,ah⟩,⟨_,_,rfl,rfl,⟨_,_,rfl,rfl,⟨_,_,rfl,rfl,rfl⟩⟩⟩⟩⟩⟩⟩:=aW
 refine enter 19 [.agg (UB b r_ g d i e j)] Tryz.func14 rfl rfl rfl rfl fun t hk=>?_
 have hm:=Ah.begin h w hh
 unfold Lw at H
 refine XT (Aa (wl fun K hK=>?_))
 refine wb (.agg (UB b r_ g d i e j)) hk hm fun f ae am (s:Kn 19 [(f,0)] [tP 1 0 0,tA 0 (UB b r_ g d i e j)] ae) a=>hK _ _ ?_
 refine Rk 1 1 [tP 1 0 0] s a fun ai u=>?_
 refine wf (XT (Aa (Rk 0 5 [tB 7 (decide (((r_.lA.length:Nat):Int)≤10)),tP 1 0 0] u a fun p m=>?_)))
 rcases Xb (decide (((r_.lA.length:Nat):Int)≤10)) with k | k
 ·
  rw [k,XW] at H
  have x:Kn 19 [(f,0)] [tB 7 true,tP 1 0 0] p:=(m.setB 7 true (by rfl) k).kp
  refine Rk 5 6 [tB 13 (decide (((r_.lB.length:Nat):Int)≤6)),tP 1 0 0] x a fun q o=>?_
  rcases Xb (decide (((r_.lB.length:Nat):Int)≤6)) with l | l
  ·
   rw [l,XW] at H
   have y:Kn 19 [(f,0)] [tB 13 true,tP 1 0 0] q:=(o.setB 13 true (by rfl) l).kp
   refine Rk 11 6 [tB 2 (decide (((r_.lC.length:Nat):Int)≤4))] y a fun aj z=>?_
   refine wf (wp_ret ?_)
   obtain rfl:=XZ H
   exact rt (.one (.c (.bool (decide (((r_.lC.length:Nat):Int)≤4))))) z a rfl
  ·
   rw [l,XV] at H
   have aa:Kn 19 [(f,0)] [tB 13 false,tP 1 0 0] q:=(o.setB 13 false (by rfl) l).kp
   refine Rk 11 6 [tB 2 false] aa a fun ak ab=>?_
   refine wf (wp_ret ?_)
   obtain rfl:=XZ H
   exact rt (.one (.c (.bool false))) ab a rfl
 ·
  rw [k,XV] at H
  have ac:Kn 19 [(f,0)] [tB 7 false,tP 1 0 0] p:=(m.setB 7 false (by rfl) k).kp
  refine Rk 5 12 [tB 2 false] ac a fun al ad=>?_
  refine wf (wp_ret ?_)
  obtain rfl:=XZ H
  exact rt (.one (.c (.bool false))) ad a rfl
abbrev JH (gY)(a:List Int)(gZ hD)(b:List Int)(hU):=([tS 0 gY a.length gZ,tS 1 hD b.length hU]:TM)
theorem JI (n:Nat) {h:Ae} {w:World} (hh:Dk h w) (a:List Int) {gY:Ww} {gZ:Nat} (hr_a:A4 h gY gZ a) (b:List Int) {hD:Ww} {hU:Nat} (hr_b:A4 h hD hU b) {r:Bool} (H:Jz n a b=some r) :
  Calls Tryz.prog 22 #[.slice gY a.length gZ,.slice hD b.length hU] w (Dq (fun h v=>v=.bool r) h w):=by
 refine enter 26 [.c (Wu gY a.length gZ),.c (Wu hD b.length hU)] Tryz.func22 rfl rfl rfl rfl fun t hk=>?_
 have hm:=Ah.begin h w hh
 unfold Jz at H
 refine XT (Aa (Rk 0 1 (JH gY a gZ hD b hU) hk hm fun bf an=>?_))
 refine wf (XT (XT (Aa (Rk 0 5 ((tB 10 (((a.length:Nat):Int) != ((b.length:Nat):Int)))::(JH gY a gZ hD b hU)) an hm fun bi u=>?_))))
 refine wf (wC ((((a.length:Nat):Int) != ((b.length:Nat):Int))) u (fun p=>?_) (fun p=>?_))
 ·
  rw [p,XW] at H
  refine XT (Aa (Rk 0 1 [tB 4 false] u hm fun bm az=>?_))
  refine wf (wp_ret ?_)
  obtain rfl:=XZ H
  exact rt (.one (.c (.bool false))) az hm rfl
 ·
  rw [p,XV] at H
  refine wp_skip (XT (XT (Aa (Rk 0 1 ((tI 5 0)::(JH gY a gZ hD b hU)) u hm fun bp a0=>?_))))
  refine wf ?_
  obtain⟨ag,ae,H⟩:=Av H
  refine A0 (fun a' w'=>∃ (ai:Unit)(ab:Array Value)(k:Ae),a' = ⟨ab,[]⟩∧Kn 26 [] [] ab∧Ah ⟨w,h,A6⟩ k [] [] [] w'∧Ae.le h k∧ag=.go ai) ?_ ?_
  ·
   refine wp_block ?_
   refine Au (fun a9 a' w'=>∃ (aA:Int)(ac:Array Value)(l:Ae),a' = ⟨ac,[]⟩∧Kn 26 [] ((tI 5 aA)::(JH gY a gZ hD b hU)) ac∧Ah ⟨w,h,A6⟩ l [] [] [] w'∧Ae.le h l∧Gw a9 a b aA=some ag) n ?_ ?_
   ·
    exact XY 0 ⟨_,_,rfl,a0.kp,hm,Ae.le_refl _,ae⟩
   ·
    rintro z _ bq ⟨aA,ac,l,rfl,ao,e,g,d⟩
    clear ae
    obtain _ | z:=z
    ·
     rw [Gw] at d; cases d
    rw [Gw] at d
    replace hr_a:=hr_a.mono g
    replace hr_b:=hr_b.mono g
    refine XT (XT (Aa (Rk 0 4 ((tB 14 (decide (aA<((a.length:Nat):Int))))::(tI 5 aA)::(JH gY a gZ hD b hU)) ao e fun bg s=>?_)))
    refine wf (wC (decide (aA<((a.length:Nat):Int))) s (fun m=>?_) (fun m=>?_))
    ·
     rw [m,XW] at d
     refine wp_skip (XT (wp_block (XT (Am (by kernel_rfl) ?_))))
     replace e:=e.drew
     refine Ao [] [] [] ?_
     refine Dr [0,1] [1,0] ((tI 18 aA)::(tS 17 gY a.length gZ)::(tI 5 aA)::(JH gY a gZ hD b hU)) s e fun bh ap=>?_
     obtain⟨fR,kC,d⟩:=Av d
     obtain⟨a1,a3,a7⟩:=Ai kC
     obtain⟨i,aa,bc,aj,a5,al⟩:=hr_a.get (by decide) a7
     obtain rfl:=a5
     have y:=e.addPlc (b:=i) (o:=aa+Wv aA*1) (cs:=[Ws fR]) (fun j c hj=>al j _ (Ak hj)) rfl (by kernel_rfl) (by kernel_rfl)
     refine Az 2 (aA) [Ws fR] (fun _ _ _ _ _ h=>h) rfl rfl (rfl) rfl (by decide) (by kernel_rfl) (by kernel_rfl) ap e.plOk (by rfl) (by rfl) (by rfl) aj (by rfl) a1 a3 (by kernel_rfl) fun ba (aq:Kn 26 [(i,aa+Wv aA*1)] ((tP 19 0 0)::(tI 18 aA)::(tS 17 gY a.length gZ)::(tI 5 aA)::(JH gY a gZ hD b hU)) ba)=>?_
     refine Dr [3,4,5] (dn 5) ((tI 22 aA)::(tS 21 hD b.length hU)::(tI 20 fR)::(tI 5 aA)::(JH gY a gZ hD b hU)) aq y fun bj ar=>?_
     obtain⟨gD,kD,d⟩:=Av d
     obtain⟨a2,a4,a8⟩:=Ai kD
     obtain⟨ad,ah,bd,ak,a6,am⟩:=hr_b.get (by decide) a8
     obtain rfl:=a6
     have f:=y.addPlc (b:=ad) (o:=ah+Wv aA*1) (cs:=[Ws gD]) (fun j c hj=>am j _ (Ak hj)) rfl (by kernel_rfl) (by kernel_rfl)
     refine Az 6 (aA) [Ws gD] (fun _ _ _ _ _ h=>h) rfl rfl (rfl) rfl (by decide) (by kernel_rfl) (by kernel_rfl) ar y.plOk (by rfl) (by rfl) (by rfl) ak (by rfl) a2 a4 (by kernel_rfl) fun bb (au:Kn 26 [(i,aa+Wv aA*1),(ad,ah+Wv aA*1)] ((tP 23 1 0)::(tI 22 aA)::(tS 21 hD b.length hU)::(tI 20 fR)::(tI 5 aA)::(JH gY a gZ hD b hU)) bb)=>?_
     refine Dr [7,8] (dn 8) ((tB 25 (fR != gD))::(tI 5 aA)::(JH gY a gZ hD b hU)) au f fun bk x=>?_
     refine A2 (by kernel_rfl) (wC ((fR != gD)) x (fun q=>?_) (fun q=>?_))
     ·
      rw [q,XW] at d
      refine XT (Aa (Rk 0 1 [tB 4 false] x f fun bl av=>?_))
      refine wf (wp_ret ?_)
      obtain rfl:=XZ d
      obtain rfl:=XZ H
      exact rt (.one (.c (.bool false))) av f rfl
     ·
      rw [q,XV] at d
      refine wp_skip (Aa (Rk 0 3 ((tI 5 (Wt (aA+1)))::(JH gY a gZ hD b hU)) x f fun bn aw=>?_))
      refine wf ?_
      exact XY z ⟨Xc _,XY (Wt (aA+1)) ⟨_,_,rfl,(aw.keep [5,0,1] (by rfl)).cut 0 (by kernel_rfl),f.cutPl 0 (by kernel_rfl),g,d⟩⟩
    ·
     rw [m,XV] at d
     refine wp_exit ?_
     obtain rfl:=XZ d
     exact XY () ⟨_,_,rfl,s.kp,e,g,rfl⟩
  ·
   rintro _ br ⟨ai,ab,k,rfl,ax,af,be,rfl⟩
   rw [Ex.bind_go] at H
   refine XT (Aa (Rk 0 1 [tB 4 true] ax af fun bo ay=>?_))
   refine wf (wp_ret ?_)
   obtain rfl:=XZ H
   exact rt (.one (.c (.bool true))) ay af rfl
end Go.Proofs.YtokchpjijlebiaaGreat
