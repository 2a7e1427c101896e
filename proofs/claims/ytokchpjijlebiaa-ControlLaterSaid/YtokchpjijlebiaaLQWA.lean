/- Each call computes its plain function. -/
import Derived.Test.YtokchpjijlebiaaProg
import Derived.Test.YtokchpjijlebiaaLQP0
set_option linter.all false
namespace Go.Proofs.Ytokchpjijlebiaa
open Go Go.RowKit
open Rep (rep)
open KRep (kv)
open VRep (rv)
set_option maxRecDepth 100000 in
set_option maxHeartbeats 4000000 in
theorem Ew (n:Nat) {h:Ad} {w:World} (hh:Dk h w) (n_:Int) (low:Int) (high:Int) {r:Bool} (H:F5 n n_ low high=some r) :
  Calls Try.prog 37 #[.int .i64 n_,.int .i64 low,.int .i64 high] w (Dq (fun h v=>v=.bool r) h w):=by
 refine enter 15 [.c (.int .i64 n_),.c (.int .i64 low),.c (.int .i64 high)] Try.func37 rfl rfl rfl rfl fun t hk=>?_
 have hm:=Ah.begin h w hh
 unfold F5 at H
 refine XT (Aa (Rk 0 1 [tI 0 n_,tI 1 low,tI 2 high] hk hm fun k f=>?_))
 refine wf (XT (Aa (Rk 0 4 [tB 10 (decide (n_≥low)),tI 0 n_,tI 2 high] f hm fun d b=>?_)))
 rcases Bool.eq_false_or_eq_true (decide (n_≥low)) with a | a
 ·
  rw [a,XW] at H
  have g:Kn 15 [] [tB 10 true,tI 0 n_,tI 2 high] d:=(b.setB 10 true (by rfl) a).kp
  refine Rk 4 5 [tB 6 (decide (n_≤high))] g hm fun m i=>?_
  refine wf (wp_ret ?_)
  obtain rfl:=XZ H
  exact rt (.one (.c (.bool (decide (n_≤high))))) i hm rfl
 ·
  rw [a,XV] at H
  have j:Kn 15 [] [tB 10 false,tI 0 n_,tI 2 high] d:=(b.setB 10 false (by rfl) a).kp
  refine Rk 4 5 [tB 6 false] j hm fun l e=>?_
  refine wf (wp_ret ?_)
  obtain rfl:=XZ H
  exact rt (.one (.c (.bool false))) e hm rfl
abbrev T5 (a:Option Addr) (r_:Af) (e:Nat) (b:Option Addr) (f:Nat) (d:Option Addr) (g:Nat):List SC:=[.slice a r_.legs.length e,.int .i64 r_.turn.lo,.int .i64 r_.turn.hi,.slice b r_.buses.length f,.slice d r_.spares.length g,.int .i64 r_.unit,.int .i64 r_.gap,.int .i64 r_.fr,.int .i64 r_.to_]
set_option maxRecDepth 100000 in
set_option maxHeartbeats 4000000 in
theorem Lc (n:Nat) {h:Ad} {w:World} (hh:Dk h w) (r_:Af) {cs_r_:List Value} (hx_r_:rep h r_ cs_r_) {r:Int} (H:Gx n r_=some r) :
  Calls Try.prog 19 #[.agg cs_r_.toArray] w (Dq (fun h v=>v=.int .i64 r) h w):=by
 obtain⟨_,_,rfl,⟨a,e,rfl,p⟩,⟨_,_,rfl,⟨_,_,rfl,rfl,rfl⟩,⟨_,_,rfl,⟨b,f,rfl,q⟩,⟨_,_,rfl,⟨d,g,rfl,s⟩,⟨_,_,rfl,rfl,⟨_,_,rfl,rfl,⟨_,_,rfl,rfl,rfl⟩⟩⟩⟩⟩⟩⟩:=hx_r_
 refine enter 7 [.agg (T5 a r_ e b f d g)] Try.func19 rfl rfl rfl rfl fun t hk=>?_
 have hm:=Ah.begin h w hh
 unfold Gx at H
 refine XT (Aa (wl fun K hK=>?_))
 refine wb (.agg (T5 a r_ e b f d g)) hk hm fun j o y (k:Kn 7 [(j,0)] [tP 1 0 0,tA 0 (T5 a r_ e b f d g)] o) i=>hK _ _ ?_
 refine Rk 1 1 [tP 1 0 0] k i fun u l=>?_
 refine wf (XT (Aa (Rk 0 5 [tI 2 (IntKind.i64.wrap (((r_.legs.length:Nat):Int)+1))] l i fun x m=>?_)))
 refine wf (wp_ret ?_)
 obtain rfl:=XZ H
 exact rt (.one (.c (.int .i64 (IntKind.i64.wrap (((r_.legs.length:Nat):Int)+1))))) m i rfl
abbrev T6 (a:Option Addr) (r_:Af) (e:Nat) (b:Option Addr) (f:Nat) (d:Option Addr) (g:Nat):List SC:=[.slice a r_.legs.length e,.int .i64 r_.turn.lo,.int .i64 r_.turn.hi,.slice b r_.buses.length f,.slice d r_.spares.length g,.int .i64 r_.unit,.int .i64 r_.gap,.int .i64 r_.fr,.int .i64 r_.to_]
set_option maxRecDepth 100000 in
set_option maxHeartbeats 4000000 in
theorem Oy (n:Nat) {h:Ad} {w:World} (hh:Dk h w) (r_:Af) {cs_r_:List Value} (hx_r_:rep h r_ cs_r_) {r:Int} (H:G7 n r_=some r) :
  Calls Try.prog 30 #[.agg cs_r_.toArray] w (Dq (fun h v=>v=.int .i64 r) h w):=by
 obtain⟨_,_,rfl,⟨a,e,rfl,p⟩,⟨_,_,rfl,⟨_,_,rfl,rfl,rfl⟩,⟨_,_,rfl,⟨b,f,rfl,q⟩,⟨_,_,rfl,⟨d,g,rfl,s⟩,⟨_,_,rfl,rfl,⟨_,_,rfl,rfl,⟨_,_,rfl,rfl,rfl⟩⟩⟩⟩⟩⟩⟩:=hx_r_
 refine enter 8 [.agg (T6 a r_ e b f d g)] Try.func30 rfl rfl rfl rfl fun t hk=>?_
 have hm:=Ah.begin h w hh
 unfold G7 at H
 refine XT (Aa (wl fun K hK=>?_))
 refine wb (.agg (T6 a r_ e b f d g)) hk hm fun j o y (k:Kn 8 [(j,0)] [tP 1 0 0,tA 0 (T6 a r_ e b f d g)] o) i=>hK _ _ ?_
 refine Rk 1 1 [tP 1 0 0] k i fun u l=>?_
 refine wf (XT (Aa (Rk 0 6 [tI 2 (IntKind.i64.wrap (Int.tdiv (IntKind.i64.wrap (((r_.legs.length:Nat):Int)+1)) 2))] l i fun x m=>?_)))
 refine wf (wp_ret ?_)
 obtain rfl:=XZ H
 exact rt (.one (.c (.int .i64 (IntKind.i64.wrap (Int.tdiv (IntKind.i64.wrap (((r_.legs.length:Nat):Int)+1)) 2))))) m i rfl
set_option maxRecDepth 100000 in
set_option maxHeartbeats 4000000 in
theorem Jb (n:Nat) {h:Ad} {w:World} (hh:Dk h w) (r_:Rg) {cs_r_:List Value} (hx_r_:rep h r_ cs_r_) (most:Int) {r:Bool} (H:G8 n r_ most=some r) :
  Calls Try.prog 60 #[.agg cs_r_.toArray,.int .i64 most] w (Dq (fun h v=>v=.bool r) h w):=by
 obtain⟨_,_,rfl,rfl,rfl⟩:=hx_r_
 refine enter 16 [.agg [.int .i64 r_.lo,.int .i64 r_.hi],.c (.int .i64 most)] Try.func60 rfl rfl rfl rfl fun t hk=>?_
 have hm:=Ah.begin h w hh
 unfold G8 at H
 refine XT (Aa (wl fun K hK=>?_))
 refine wb (.agg [.int .i64 r_.lo,.int .i64 r_.hi]) hk hm fun d x ag (p:Kn 16 [(d,0)] [tP 2 0 0,tA 0 [.int .i64 r_.lo,.int .i64 r_.hi],tI 1 most] x) e=>hK _ _ ?_
 refine Rk 1 1 [tP 2 0 0,tI 1 most] p e fun ac q=>?_
 refine wf (XT (Aa (Rk 0 4 [tI 8 r_.hi,tI 6 r_.lo,tP 2 0 0,tI 1 most] q e fun ad s=>?_)))
 obtain⟨x9,ex9,H⟩:=Ao H
 refine wl fun K hK=>?_
 refine wc [.c (.int .i64 r_.lo),.c (.int .i64 0),.c (.int .i64 r_.hi)] s e (Ew n e.has r_.lo 0 r_.hi ex9) fun ae y af i z b=>?_
 obtain rfl:=i
 refine⟨.one (.c (.bool x9)),rfl,fun u (j:Kn 16 [(d,0)] [tB 9 x9,tI 8 r_.hi,tI 6 r_.lo,tP 2 0 0,tI 1 most] u)=>hK _ _ ?_⟩
 refine Rk 5 1 [tB 10 x9,tP 2 0 0,tI 1 most] j b fun g f=>?_
 rcases Bool.eq_false_or_eq_true (x9) with a | a
 ·
  rw [a,XW] at H
  have k:Kn 16 [(d,0)] [tB 10 true,tP 2 0 0,tI 1 most] g:=(f.setB 10 true (by rfl) a).kp
  refine Rk 6 6 [tB 4 (decide (r_.hi≤most))] k b fun aa l=>?_
  refine wf (wp_ret ?_)
  obtain rfl:=XZ H
  exact rt (.one (.c (.bool (decide (r_.hi≤most))))) l b rfl
 ·
  rw [a,XV] at H
  have m:Kn 16 [(d,0)] [tB 10 false,tP 2 0 0,tI 1 most] g:=(f.setB 10 false (by rfl) a).kp
  refine Rk 6 6 [tB 4 false] m b fun ab o=>?_
  refine wf (wp_ret ?_)
  obtain rfl:=XZ H
  exact rt (.one (.c (.bool false))) o b rfl
set_option maxRecDepth 100000 in
set_option maxHeartbeats 4000000 in
theorem JD (n:Nat) {h:Ad} {w:World} (hh:Dk h w) (r_:Rg) {cs_r_:List Value} (hx_r_:rep h r_ cs_r_) {r:Rg} (H:IF n r_=some r) :
  Calls Try.prog 55 #[.agg cs_r_.toArray] w (Dq (fun h v=>∃ cs,v=.agg cs.toArray∧rep h r cs) h w):=by
 obtain⟨_,_,rfl,rfl,rfl⟩:=hx_r_
 refine enter 8 [.agg [.int .i64 r_.lo,.int .i64 r_.hi]] Try.func55 rfl rfl rfl rfl fun t hk=>?_
 have hm:=Ah.begin h w hh
 unfold IF at H
 refine XT (Aa (wl fun K hK=>?_))
 refine wb (.agg [.int .i64 r_.lo,.int .i64 r_.hi]) hk hm fun a p s (j:Kn 8 [(a,0)] [tP 1 0 0,tA 0 [.int .i64 r_.lo,.int .i64 r_.hi]] p) m=>hK _ _ ?_
 refine wl fun K hK=>?_
 refine wa [.int .i64 0,.int .i64 0] j m fun b d u (k:Kn 8 [(a,0),(b,0)] [tP 2 1 0,tP 1 0 0,tA 0 [.int .i64 r_.lo,.int .i64 r_.hi]] d) c=>hK _ _ ?_
 have e:Kn 8 [(a,0),(b,0)] [tP 2 1 0,tP 1 0 0] d:=k.kp
 refine wf (XT (Aa (Rk 0 5 [tA 7 [.int .i64 r_.lo,.int .i64 r_.hi],tP 2 1 0] e c fun o f=>?_)))
 refine wl fun K hK=>?_
 refine EA 1 0 (.agg [.int .i64 r_.lo,.int .i64 r_.hi]) [.int .i64 r_.lo,.int .i64 r_.hi] f c fun q g l=>hK _ _ ?_
 have i:Kn 8 [(a,0),(b,0)] [tP 2 1 0] o:=g.kp
 refine wf (wp_ret ?_)
 obtain rfl:=XZ H
 exact rt (.one (.agg [.int .i64 r_.lo,.int .i64 r_.hi])) i l ⟨_,rfl,((Ab Ac Ac):rep h (r_:Rg) _)⟩
abbrev Fh (p:Option Addr) (r_:Af) (q:Nat) (i:Option Addr) (l:Nat) (k:Option Addr) (m:Nat):List SC:=[.slice p r_.legs.length q,.int .i64 r_.turn.lo,.int .i64 r_.turn.hi,.slice i r_.buses.length l,.slice k r_.spares.length m,.int .i64 r_.unit,.int .i64 r_.gap,.int .i64 r_.fr,.int .i64 r_.to_]
abbrev FV (x_v20:Int):TM:=[tI 4 x_v20,tP 1 0 0]
abbrev FW (x_v30:Int):TM:=[tI 5 x_v30,tP 1 0 0]
set_option maxRecDepth 100000 in
set_option maxHeartbeats 4000000 in
theorem Ld (n:Nat) {h:Ad} {w:World} (hh:Dk h w) (r_:Af) {cs_r_:List Value} (hx_r_:rep h r_ cs_r_) {r:Int} (H:Gy n r_=some r) :
  Calls Try.prog 17 #[.agg cs_r_.toArray] w (Dq (fun h v=>v=.int .i64 r) h w):=by
 obtain⟨_,_,rfl,⟨p,q,rfl,g⟩,⟨_,_,rfl,⟨_,_,rfl,rfl,rfl⟩,⟨_,_,rfl,⟨i,l,rfl,d⟩,⟨_,_,rfl,⟨k,m,rfl,e⟩,⟨_,_,rfl,rfl,⟨_,_,rfl,rfl,⟨_,_,rfl,rfl,rfl⟩⟩⟩⟩⟩⟩⟩:=hx_r_
 refine enter 128 [.agg (Fh p r_ q i l k m)] Try.func17 rfl rfl rfl rfl fun t hk=>?_
 have hm:=Ah.begin h w hh
 unfold Gy at H
 refine XT (Aa (wl fun K hK=>?_))
 refine wb (.agg (Fh p r_ q i l k m)) hk hm fun a hs ki (e0:Kn 128 [(a,0)] [tP 1 0 0,tA 0 (Fh p r_ q i l k m)] hs) ak=>hK _ _ ?_
 refine Rk 1 1 [tP 1 0 0] e0 ak fun i1 e4=>?_
 refine wf (XT (XT ?_))
 obtain⟨dm,bc,H⟩:=Ao H
 refine Aw (fun a' w'=>∃ (co:Array Value)(av:Ad),a' = ⟨co,[]⟩∧Kn 128 [(a,0)] [tP 1 0 0,tB 15 dm] co∧Ah ⟨w,h,A5⟩ av [(a,0)] [⟨Fh p r_ q i l k m,some 28⟩] [] w'∧Ad.le h av) ?_ ?_
 ·
  refine Aa (Rk 0 5 [tB 10 (decide (((r_.buses.length:Nat):Int)>4)),tP 1 0 0] e4 ak fun dw c0=>?_)
  rcases Bool.eq_false_or_eq_true (decide (((r_.buses.length:Nat):Int)>4)) with az | az
  ·
   rw [az,XW] at bc
   have fh:Kn 128 [(a,0)] [tB 10 true,tP 1 0 0] dw:=(c0.setB 10 true (by rfl) az).kp
   refine Rk 5 5 [tB 15 true,tP 1 0 0] fh ak fun jc fn=>?_
   refine wf ?_
   obtain rfl:=XZ bc
   exact XY _ ⟨_,rfl,fn.kp,ak,Ad.le_refl _⟩
  ·
   rw [az,XV] at bc
   have fo:Kn 128 [(a,0)] [tB 10 false,tP 1 0 0] dw:=(c0.setB 10 false (by rfl) az).kp
   refine Rk 5 5 [tB 15 (decide (((r_.spares.length:Nat):Int)>2)),tP 1 0 0] fo ak fun jh fu=>?_
   refine wf ?_
   obtain rfl:=XZ bc
   exact XY _ ⟨_,rfl,fu.kp,ak,Ad.le_refl _⟩
 ·
  rintro _ kt ⟨co,av,rfl,b7,y,cd⟩
  replace g:=g.mono cd
  replace d:=d.mono cd
  replace e:=e.mono cd
  refine wC (dm) b7 (fun b0=>?_) (fun b0=>?_)
  ·
   rw [b0,XW] at H
   refine XT (Aa (Rk 0 1 [tI 2 3] b7 y fun jq f7=>?_))
   refine wf (wp_ret ?_)
   obtain rfl:=XZ H
   exact rt (.one (.c (.int .i64 3))) f7 y rfl
  ·
   rw [b0,XV] at H
   refine wp_skip (XT (XT ?_))
   obtain⟨dr,f,H⟩:=Ao H
   refine Aw (fun a' w'=>∃ (cu:Array Value)(ax:Ad),a' = ⟨cu,[]⟩∧Kn 128 [(a,0)] [tP 1 0 0,tB 57 dr] cu∧Ah ⟨w,h,A5⟩ ax [(a,0)] [⟨Fh p r_ q i l k m,some 28⟩] [] w'∧Ad.le av ax) ?_ ?_
   ·
    refine Aa (Rk 0 6 [tB 21 ((Int.tmod ((r_.legs.length:Nat):Int) 2) == 0),tP 1 0 0] b7 y fun dz c9=>?_)
    rcases Bool.eq_false_or_eq_true (((Int.tmod ((r_.legs.length:Nat):Int) 2) == 0)) with a2 | a2
    ·
     rw [a2,XW] at f
     have gf:Kn 128 [(a,0)] [tB 21 true,tP 1 0 0] dz:=(c9.setB 21 true (by rfl) a2).kp
     refine Rk 6 36 [tB 57 true,tP 1 0 0] gf y fun jz gg=>?_
     refine wf ?_
     obtain rfl:=XZ f
     exact XY _ ⟨_,rfl,gg.kp,y,Ad.le_refl _⟩
    ·
     rw [a2,XV] at f
     have gh:Kn 128 [(a,0)] [tB 21 false,tP 1 0 0] dz:=(c9.setB 21 false (by rfl) a2).kp
     refine Rk 6 6 [tB 27 (decide (((r_.legs.length:Nat):Int)>7)),tP 1 0 0] gh y fun d0 da=>?_
     rcases Bool.eq_false_or_eq_true (decide (((r_.legs.length:Nat):Int)>7)) with a3 | a3
     ·
      rw [a3,XW] at f
      have gi:Kn 128 [(a,0)] [tB 27 true,tP 1 0 0] d0:=(da.setB 27 true (by rfl) a3).kp
      refine Rk 12 30 [tB 57 true,tP 1 0 0] gi y fun j0 gj=>?_
      refine wf ?_
      obtain rfl:=XZ f
      exact XY _ ⟨_,rfl,gj.kp,y,Ad.le_refl _⟩
     ·
      rw [a3,XV] at f
      have gk:Kn 128 [(a,0)] [tB 27 false,tP 1 0 0] d0:=(da.setB 27 false (by rfl) a3).kp
      refine Rk 12 2 [tA 29 [.int .i64 r_.turn.lo,.int .i64 r_.turn.hi],tB 27 false,tP 1 0 0] gk y fun j1 db=>?_
      obtain⟨x30,ex30,f⟩:=Ao f
      refine AI _ rfl (Ak db (by kernel_rfl)) fun K hK=>?_
      refine wc [.agg [.int .i64 r_.turn.lo,.int .i64 r_.turn.hi],.c (.int .i64 300)] db y (Jb n y.has r_.turn ((Ab Ac Ac):rep av r_.turn _) 300 ex30) fun ke io kz ec ab an=>?_
      replace g:=g.mono ab
      replace d:=d.mono ab
      replace e:=e.mono ab
      obtain rfl:=ec
      refine⟨.one (.c (.bool x30)),rfl,fun h6 (gl:Kn 128 [(a,0)] [tB 30 x30,tA 29 [.int .i64 r_.turn.lo,.int .i64 r_.turn.hi],tB 27 false,tP 1 0 0] h6)=>hK _ _ ?_⟩
      refine Rk 15 3 [tB 33 (!x30),tP 1 0 0] gl an fun d1 dc=>?_
      rcases Bool.eq_false_or_eq_true ((!x30)) with a4 | a4
      ·
       rw [a4,XW] at f
       have gm:Kn 128 [(a,0)] [tB 33 true,tP 1 0 0] d1:=(dc.setB 33 true (by rfl) a4).kp
       refine Rk 18 24 [tB 57 true,tP 1 0 0] gm an fun j2 gn=>?_
       refine wf ?_
       obtain rfl:=XZ f
       exact XY _ ⟨_,rfl,gn.kp,an,ab⟩
      ·
       rw [a4,XV] at f
       have gp:Kn 128 [(a,0)] [tB 33 false,tP 1 0 0] d1:=(dc.setB 33 false (by rfl) a4).kp
       refine Rk 18 2 [tI 35 r_.unit,tB 33 false,tP 1 0 0] gp an fun j3 dd=>?_
       obtain⟨x36,ex36,f⟩:=Ao f
       refine AI _ rfl (Ak dd (by kernel_rfl)) fun K hK=>?_
       refine wc [.c (.int .i64 r_.unit),.c (.int .i64 1),.c (.int .i64 30)] dd an (Ew n an.has r_.unit 1 30 ex36) fun kf ip k0 ed ag ao=>?_
       replace g:=g.mono ag
       replace d:=d.mono ag
       replace e:=e.mono ag
       obtain rfl:=ed
       refine⟨.one (.c (.bool x36)),rfl,fun h7 (gq:Kn 128 [(a,0)] [tB 36 x36,tI 35 r_.unit,tB 33 false,tP 1 0 0] h7)=>hK _ _ ?_⟩
       refine Rk 21 3 [tB 39 (!x36),tP 1 0 0] gq ao fun d2 de=>?_
       rcases Bool.eq_false_or_eq_true ((!x36)) with a5 | a5
       ·
        rw [a5,XW] at f
        have gr:Kn 128 [(a,0)] [tB 39 true,tP 1 0 0] d2:=(de.setB 39 true (by rfl) a5).kp
        refine Rk 24 18 [tB 57 true,tP 1 0 0] gr ao fun j4 gs=>?_
        refine wf ?_
        obtain rfl:=XZ f
        exact XY _ ⟨_,rfl,gs.kp,ao,XU ab ag⟩
       ·
        rw [a5,XV] at f
        have gu:Kn 128 [(a,0)] [tB 39 false,tP 1 0 0] d2:=(de.setB 39 false (by rfl) a5).kp
        refine Rk 24 2 [tI 41 r_.gap,tB 39 false,tP 1 0 0] gu ao fun j5 df=>?_
        obtain⟨x42,ex42,f⟩:=Ao f
        refine AI _ rfl (Ak df (by kernel_rfl)) fun K hK=>?_
        refine wc [.c (.int .i64 r_.gap),.c (.int .i64 0),.c (.int .i64 2000)] df ao (Ew n ao.has r_.gap 0 2000 ex42) fun kg iq k1 ee aj ap=>?_
        replace g:=g.mono aj
        replace d:=d.mono aj
        replace e:=e.mono aj
        obtain rfl:=ee
        refine⟨.one (.c (.bool x42)),rfl,fun h8 (gv:Kn 128 [(a,0)] [tB 42 x42,tI 41 r_.gap,tB 39 false,tP 1 0 0] h8)=>hK _ _ ?_⟩
        refine Rk 27 3 [tB 45 (!x42),tP 1 0 0] gv ap fun d3 dg=>?_
        rcases Bool.eq_false_or_eq_true ((!x42)) with a6 | a6
        ·
         rw [a6,XW] at f
         have er:Kn 128 [(a,0)] [tB 45 true,tP 1 0 0] d3:=(dg.setB 45 true (by rfl) a6).kp
         refine Rk 30 12 [tB 57 true,tP 1 0 0] er ap fun iu es=>?_
         refine wf ?_
         obtain rfl:=XZ f
         exact XY _ ⟨_,rfl,es.kp,ap,XU ab (XU ag aj)⟩
        ·
         rw [a6,XV] at f
         have et:Kn 128 [(a,0)] [tB 45 false,tP 1 0 0] d3:=(dg.setB 45 false (by rfl) a6).kp
         refine Rk 30 4 [tI 49 r_.to_,tI 47 r_.fr,tB 45 false,tP 1 0 0] et ap fun iv cy=>?_
         obtain⟨x50,ex50,f⟩:=Ao f
         refine AI _ rfl (Ak cy (by kernel_rfl)) fun K hK=>?_
         refine wc [.c (.int .i64 r_.fr),.c (.int .i64 0),.c (.int .i64 r_.to_)] cy ap (Ew n ap.has r_.fr 0 r_.to_ ex50) fun j6 ig kh d4 dh ba=>?_
         obtain rfl:=d4
         refine⟨.one (.c (.bool x50)),rfl,fun ht (eu:Kn 128 [(a,0)] [tB 50 x50,tI 49 r_.to_,tI 47 r_.fr,tB 45 false,tP 1 0 0] ht)=>hK _ _ ?_⟩
         refine Rk 35 3 [tB 53 (!x50),tP 1 0 0] eu ba fun dv cz=>?_
         rcases Bool.eq_false_or_eq_true ((!x50)) with ay | ay
         ·
          rw [ay,XW] at f
          have ev:Kn 128 [(a,0)] [tB 53 true,tP 1 0 0] dv:=(cz.setB 53 true (by rfl) ay).kp
          refine Rk 38 4 [tB 57 true,tP 1 0 0] ev ba fun iw ew=>?_
          refine wf ?_
          obtain rfl:=XZ f
          exact XY _ ⟨_,rfl,ew.kp,ba,XU ab (XU ag (XU aj dh))⟩
         ·
          rw [ay,XV] at f
          have ex:Kn 128 [(a,0)] [tB 53 false,tP 1 0 0] dv:=(cz.setB 53 false (by rfl) ay).kp
          refine Rk 38 4 [tB 57 (decide (r_.to_>2000)),tP 1 0 0] ex ba fun ix ey=>?_
          refine wf ?_
          obtain rfl:=XZ f
          exact XY _ ⟨_,rfl,ey.kp,ba,XU ab (XU ag (XU aj dh))⟩
   ·
    rintro _ kj ⟨cu,ax,rfl,b2,bk,ca⟩
    replace g:=g.mono ca
    replace d:=d.mono ca
    replace e:=e.mono ca
    refine wC (dr) b2 (fun bt=>?_) (fun bt=>?_)
    ·
     rw [bt,XW] at H
     refine XT (Aa (Rk 0 1 [tI 2 1] b2 bk fun iy ez=>?_))
     refine wf (wp_ret ?_)
     obtain rfl:=XZ H
     exact rt (.one (.c (.int .i64 1))) ez bk rfl
    ·
     rw [bt,XV] at H
     refine wp_skip (XT (XT (Aa (Rk 0 1 [tI 3 0,tP 1 0 0] b2 bk fun iz e1=>?_))))
     refine wf ?_
     obtain⟨dl,cv,H⟩:=Ao H
     refine Aw (fun a' w'=>∃ (ds:Unit)(cm:Array Value)(au:Ad),a' = ⟨cm,[]⟩∧Kn 128 [(a,0)] [tP 1 0 0] cm∧Ah ⟨w,h,A5⟩ au [(a,0)] [⟨Fh p r_ q i l k m,some 28⟩] [] w'∧Ad.le ax au∧dl=.go ds) ?_ ?_
     ·
      refine wp_block ?_
      refine Au (fun hp a' w'=>∃ (x_v10:Int)(cn:Array Value)(bd:Ad),a' = ⟨cn,[]⟩∧Kn 128 [(a,0)] [tI 3 x_v10,tP 1 0 0] cn∧Ah ⟨w,h,A5⟩ bd [(a,0)] [⟨Fh p r_ q i l k m,some 28⟩] [] w'∧Ad.le ax bd∧D7 hp r_ x_v10=some dl) n ?_ ?_
      ·
       exact XY 0 ⟨_,_,rfl,e1.kp,bk,Ad.le_refl _,cv⟩
      ·
       rintro bo _ kk ⟨x_v10,cn,bd,rfl,e2,bl,a7,x⟩
       clear cv
       obtain _ | bo:=bo
       ·
        rw [D7] at x; cases x
       rw [D7] at x
       replace g:=g.mono a7
       replace d:=d.mono a7
       replace e:=e.mono a7
       refine XT (XT (Aa (Rk 0 5 [tB 62 (decide (x_v10<((r_.legs.length:Nat):Int))),tI 3 x_v10,tP 1 0 0] e2 bl fun i0 b3=>?_)))
       refine wf (wC (decide (x_v10<((r_.legs.length:Nat):Int))) b3 (fun bu=>?_) (fun bu=>?_))
       ·
        rw [bu,XW] at x
        refine wp_skip (XT (wp_block (XT (Aa (Rk 0 3 [tI 67 x_v10,tS 66 p r_.legs.length q,tI 3 x_v10,tP 1 0 0] b3 bl fun i2 e3=>?_)))))
        obtain⟨x68,ex68,x⟩:=Ao x
        obtain⟨gz,g4,hf⟩:=Ai ex68
        obtain⟨bp,cj,h9,eg,g9,el⟩:=g.get (by decide) hf
        obtain⟨_,_,rfl,rfl,rfl⟩:=g9
        have ce:=bl.addPlc (b:=bp) (o:=cj+(x_v10:Int).toNat*2) (cs:=[.int .i64 x68.lo,.int .i64 x68.hi]) (fun j c hj=>el j _ (Aj hj)) rfl (by kernel_rfl) (by kernel_rfl)
        refine Bb 3 (x_v10) rfl rfl (rfl) rfl (by decide) e3 (by rfl) (by rfl) (by rfl) eg (by rfl) gz g4 (by kernel_rfl) fun hu (e5:Kn 128 [(a,0),(bp,cj+(x_v10:Int).toNat*2)] [tP 68 1 0,tI 67 x_v10,tS 66 p r_.legs.length q,tI 3 x_v10,tP 1 0 0] hu)=>?_
        refine Rk 4 1 [tA 69 [.int .i64 x68.lo,.int .i64 x68.hi],tI 3 x_v10,tP 1 0 0] e5 ce fun i3 e6=>?_
        obtain⟨x70,ex70,x⟩:=Ao x
        refine wl fun K hK=>?_
        refine wc [.agg [.int .i64 x68.lo,.int .i64 x68.hi],.c (.int .i64 300)] e6 ce (Jb bo ce.has x68 ((Ab Ac Ac):rep bd x68 _) 300 ex70) fun j7 ih kl d5 gw bb=>?_
        obtain rfl:=d5
        refine⟨.one (.c (.bool x70)),rfl,fun hv (e7:Kn 128 [(a,0),(bp,cj+(x_v10:Int).toNat*2)] [tB 70 x70,tA 69 [.int .i64 x68.lo,.int .i64 x68.hi],tI 3 x_v10,tP 1 0 0] hv)=>hK _ _ ?_⟩
        refine Rk 6 1 [tB 71 (!x70),tI 3 x_v10,tP 1 0 0] e7 bb fun i4 b4=>?_
        refine wf (wC ((!x70)) b4 (fun bv=>?_) (fun bv=>?_))
        ·
         rw [bv,XW] at x
         refine XT (Aa (Rk 0 1 [tI 2 1] b4 bb fun i5 e8=>?_))
         refine wf (wp_ret ?_)
         obtain rfl:=XZ x
         obtain rfl:=XZ H
         exact rt (.one (.c (.int .i64 1))) e8 bb rfl
        ·
         rw [bv,XV] at x
         refine wp_skip (Aa (Rk 0 3 [tI 3 (IntKind.i64.wrap (x_v10+1)),tP 1 0 0] b4 bb fun i6 e9=>?_))
         refine wf ?_
         exact XY bo ⟨Nat.lt_succ_self _,XY (IntKind.i64.wrap (x_v10+1)) ⟨_,_,rfl,(e9.keep [3,1] (by rfl)).cut 1 (by kernel_rfl),bb.cutPl 1 (by kernel_rfl),XU a7 gw,x⟩⟩
       ·
        rw [bu,XV] at x
        refine wp_exit ?_
        obtain rfl:=XZ x
        exact XY () ⟨_,_,rfl,b3.kp,bl,a7,rfl⟩
     ·
      rintro _ km ⟨ds,cm,au,rfl,fa,di,cb,rfl⟩
      rw [Ex.bind_go] at H
      replace g:=g.mono cb
      replace d:=d.mono cb
      replace e:=e.mono cb
      refine XT (XT (Aa (Rk 0 1 [tI 4 0,tP 1 0 0] fa di fun i7 fb=>?_)))
      refine wf ?_
      obtain⟨dp,cw,H⟩:=Ao H
      refine Aw (fun a' w'=>∃ (dt:Unit)(cp:Array Value)(aw:Ad),a' = ⟨cp,[]⟩∧Kn 128 [(a,0)] [tP 1 0 0] cp∧Ah ⟨w,h,A5⟩ aw [(a,0)] [⟨Fh p r_ q i l k m,some 28⟩] [] w'∧Ad.le au aw∧dp=.go dt) ?_ ?_
      ·
       refine wp_block ?_
       refine Au (fun hq a' w'=>∃ (x_v20:Int)(cq:Array Value)(be:Ad),a' = ⟨cq,[]⟩∧Kn 128 [(a,0)] (FV x_v20) cq∧Ah ⟨w,h,A5⟩ be [(a,0)] [⟨Fh p r_ q i l k m,some 28⟩] [] w'∧Ad.le au be∧D8 hq r_ x_v20=some dp) n ?_ ?_
       ·
        exact XY 0 ⟨_,_,rfl,fb.kp,di,Ad.le_refl _,cw⟩
       ·
        rintro aq _ kn ⟨x_v20,cq,be,rfl,fc,ah,a8,s⟩
        clear cw
        obtain _ | aq:=aq
        ·
         rw [D8] at s; cases s
        rw [D8] at s
        replace g:=g.mono a8
        replace d:=d.mono a8
        replace e:=e.mono a8
        refine XT (XT (Aa (Rk 0 5 ((tB 76 (decide (x_v20<((r_.buses.length:Nat):Int))))::(FV x_v20)) fc ah fun i8 b5=>?_)))
        refine wf (wC (decide (x_v20<((r_.buses.length:Nat):Int))) b5 (fun bw=>?_) (fun bw=>?_))
        ·
         rw [bw,XW] at s
         refine wp_skip (XT (wp_block (XT (Al (by kernel_rfl) ?_))))
         replace ah:=ah.drew
         refine Am [] [(a,0)] [⟨Fh p r_ q i l k m,some 28⟩] ?_
         refine Dr [0,1,2] [2,1,0] ((tI 81 x_v20)::(tS 80 i r_.buses.length l)::(FV x_v20)) b5 ah fun i9 fd=>?_
         obtain⟨x82,ex82,s⟩:=Ao s
         obtain⟨g0,g5,hg⟩:=Ai ex82
         obtain⟨z,ae,ia,eh,ha,em⟩:=d.get (by decide) hg
         obtain⟨_,_,rfl,rfl,⟨_,_,rfl,rfl,rfl⟩⟩:=ha
         have cf:=ah.addPlc (b:=z) (o:=ae+(x_v20:Int).toNat*3) (cs:=[.int .i64 x82.stop,.int .i64 x82.tm.lo,.int .i64 x82.tm.hi]) (fun j c hj=>em j _ (Aj hj)) rfl (by kernel_rfl) (by kernel_rfl)
         refine A2 3 (x_v20) [.int .i64 x82.stop,.int .i64 x82.tm.lo,.int .i64 x82.tm.hi] (fun _ _ _ _ _ h=>h) rfl rfl (rfl) rfl (by decide) (by kernel_rfl) (by kernel_rfl) fd ah.plOk (by rfl) (by rfl) (by rfl) eh (by rfl) g0 g5 (by kernel_rfl) fun hw (fe:Kn 128 [(a,0),(z,ae+(x_v20:Int).toNat*3)] ((tP 82 1 0)::(tI 81 x_v20)::(tS 80 i r_.buses.length l)::(FV x_v20)) hw)=>?_
         refine Dr [4,5,6] (dn 6) ((tA 85 (Fh p r_ q i l k m))::(tI 84 x82.stop)::(FV x_v20)) fe cf fun ja ff=>?_
         obtain⟨x86,ex86,s⟩:=Ao s
         refine Dl 7 fun K hK=>?_
         refine wc [.agg (Fh p r_ q i l k m)] ff cf (Lc aq cf.has r_ ((Ab (Ae g) (Ab (Ab Ac Ac) (Ab (Ae d) (Ab (Ae e) (Ab Ac (Ab Ac (Ab Ac Ac))))))):rep be r_ _) ex86) fun j8 ii ko d6 bg bm=>?_
         obtain rfl:=d6
         refine⟨.one (.c (.int .i64 x86)),rfl,fun hx (fg:Kn 128 [(a,0),(z,ae+(x_v20:Int).toNat*3)] ((tI 86 x86)::(tA 85 (Fh p r_ q i l k m))::(tI 84 x82.stop)::(FV x_v20)) hx)=>hK _ _ bm.plOk ?_⟩
         refine Dr [8] (dn 8) ((tI 87 (IntKind.i64.wrap (x86-1)))::(tI 84 x82.stop)::(FV x_v20)) fg bm fun jb fi=>?_
         obtain⟨x88,ex88,s⟩:=Ao s
         refine Dl 9 fun K hK=>?_
         refine wc [.c (.int .i64 x82.stop),.c (.int .i64 0),.c (.int .i64 (IntKind.i64.wrap (x86-1)))] fi bm (Ew aq bm.has x82.stop 0 (IntKind.i64.wrap (x86-1)) ex88) fun j9 ef kq d7 bh ac=>?_
         replace g:=g.mono (XU bg bh)
         replace d:=d.mono (XU bg bh)
         replace e:=e.mono (XU bg bh)
         obtain rfl:=d7
         refine⟨.one (.c (.bool x88)),rfl,fun hy (fj:Kn 128 [(a,0),(z,ae+(x_v20:Int).toNat*3)] ((tB 88 x88)::(tI 87 (IntKind.i64.wrap (x86-1)))::(tI 84 x82.stop)::(FV x_v20)) hy)=>hK _ _ ac.plOk ?_⟩
         refine Dr [10,11] (dn 11) ((tB 90 (!x88))::(FV x_v20)) fj ac fun dx c1=>?_
         rcases Bool.eq_false_or_eq_true ((!x88)) with a0 | a0
         ·
          rw [a0,XW] at s
          have fk:Kn 128 [(a,0),(z,ae+(x_v20:Int).toNat*3)] ((tB 90 true)::(FV x_v20)) dx:=(c1.setB 90 true (by rfl) a0).kp
          refine Dr [12,13,14,15,16,17,18,19,20] (dn 20) ((tB 99 true)::(FV x_v20)) fk ac fun jd c2=>?_
          refine A1 (by kernel_rfl) (wC true c2 (fun hb=>?_) (fun hb=>?_))
          rotate_left
          ·
           cases hb
          refine XT (Aa (Rk 0 1 [tI 2 1] c2 ac fun je fl=>?_))
          refine wf (wp_ret ?_)
          obtain rfl:=XZ s
          obtain rfl:=XZ H
          exact rt (.one (.c (.int .i64 1))) fl ac rfl
         ·
          rw [a0,XV] at s
          have fm:Kn 128 [(a,0),(z,ae+(x_v20:Int).toNat*3)] ((tB 90 false)::(FV x_v20)) dx:=(c1.setB 90 false (by rfl) a0).kp
          refine Dr [12,13,14] (dn 14) ((tI 93 x_v20)::(tS 92 i r_.buses.length l)::(tB 90 false)::(FV x_v20)) fm ac fun jf c3=>?_
          obtain⟨x94,ex94,s⟩:=Ao s
          obtain⟨g1,g6,hl⟩:=Ai ex94
          obtain⟨bq,ck,ib,ei,hc,en⟩:=d.get (by decide) hl
          obtain⟨_,_,rfl,rfl,⟨_,_,rfl,rfl,rfl⟩⟩:=hc
          have cg:=ac.addPlc (b:=bq) (o:=ck+(x_v20:Int).toNat*3) (cs:=[.int .i64 x94.stop,.int .i64 x94.tm.lo,.int .i64 x94.tm.hi]) (fun j c hj=>en j _ (Aj hj)) rfl (by kernel_rfl) (by kernel_rfl)
          refine A2 15 (x_v20) [.int .i64 x94.stop,.int .i64 x94.tm.lo,.int .i64 x94.tm.hi] (fun _ _ _ _ _ h=>h) rfl rfl (Ak c3 (by kernel_rfl)) rfl (by decide) (by kernel_rfl) (by kernel_rfl) c3 ac.plOk (by rfl) (by rfl) (by rfl) ei (by rfl) g1 g6 (by kernel_rfl) fun hz (fp:Kn 128 [(a,0),(z,ae+(x_v20:Int).toNat*3),(bq,ck+(x_v20:Int).toNat*3)] ((tP 94 2 0)::(tI 93 x_v20)::(tS 92 i r_.buses.length l)::(tB 90 false)::(FV x_v20)) hz)=>?_
          refine Dr [16,17] (dn 17) ((tA 96 [.int .i64 x94.tm.lo,.int .i64 x94.tm.hi])::(tB 90 false)::(FV x_v20)) fp cg fun jg c4=>?_
          obtain⟨x97,ex97,s⟩:=Ao s
          refine FB 18 rfl (by kernel_rfl) (by decide) (Ak c4 (by kernel_rfl)) fun K hK=>?_
          refine wc [.agg [.int .i64 x94.tm.lo,.int .i64 x94.tm.hi],.c (.int .i64 2000)] c4 cg (Jb aq cg.has x94.tm ((Ab Ac Ac):rep ef x94.tm _) 2000 ex97) fun ka ij kr d8 gx al=>?_
          obtain rfl:=d8
          refine⟨.one (.c (.bool x97)),rfl,fun h0 (fq:Kn 128 [(a,0),(z,ae+(x_v20:Int).toNat*3),(bq,ck+(x_v20:Int).toNat*3)] ((tB 97 x97)::(tA 96 [.int .i64 x94.tm.lo,.int .i64 x94.tm.hi])::(tB 90 false)::(FV x_v20)) h0)=>hK _ _ al.plOk ?_⟩
          refine Dr [19,20] (dn 20) ((tB 99 (!x97))::(FV x_v20)) fq al fun ji b6=>?_
          refine A1 (by kernel_rfl) (wC ((!x97)) b6 (fun bx=>?_) (fun bx=>?_))
          ·
           rw [bx,XW] at s
           refine XT (Aa (Rk 0 1 [tI 2 1] b6 al fun jj fs=>?_))
           refine wf (wp_ret ?_)
           obtain rfl:=XZ s
           obtain rfl:=XZ H
           exact rt (.one (.c (.int .i64 1))) fs al rfl
          ·
           rw [bx,XV] at s
           refine wp_skip (Aa (Rk 0 3 [tI 4 (IntKind.i64.wrap (x_v20+1)),tP 1 0 0] b6 al fun jk ft=>?_))
           refine wf ?_
           exact XY aq ⟨Nat.lt_succ_self _,XY (IntKind.i64.wrap (x_v20+1)) ⟨_,_,rfl,(ft.keep [4,1] (by rfl)).cut 1 (by kernel_rfl),al.cutPl 1 (by kernel_rfl),XU a8 (XU bg (XU bh gx)),s⟩⟩
        ·
         rw [bw,XV] at s
         refine wp_exit ?_
         obtain rfl:=XZ s
         exact XY () ⟨_,_,rfl,b5.kp,ah,a8,rfl⟩
      ·
       rintro _ ks ⟨dt,cp,aw,rfl,fv,dj,cc,rfl⟩
       rw [Ex.bind_go] at H
       replace g:=g.mono cc
       replace d:=d.mono cc
       replace e:=e.mono cc
       refine XT (XT (Aa (Rk 0 1 [tI 5 0,tP 1 0 0] fv dj fun jl fw=>?_)))
       refine wf ?_
       obtain⟨dq,cx,H⟩:=Ao H
       refine Aw (fun a' w'=>∃ (du:Unit)(cr:Array Value)(bs:Ad),a' = ⟨cr,[]⟩∧Kn 128 [(a,0)] [] cr∧Ah ⟨w,h,A5⟩ bs [(a,0)] [⟨Fh p r_ q i l k m,some 28⟩] [] w'∧Ad.le aw bs∧dq=.go du) ?_ ?_
       ·
        refine wp_block ?_
        refine Au (fun hr a' w'=>∃ (x_v30:Int)(ct:Array Value)(bf:Ad),a' = ⟨ct,[]⟩∧Kn 128 [(a,0)] (FW x_v30) ct∧Ah ⟨w,h,A5⟩ bf [(a,0)] [⟨Fh p r_ q i l k m,some 28⟩] [] w'∧Ad.le aw bf∧D9 hr r_ x_v30=some dq) n ?_ ?_
        ·
         exact XY 0 ⟨_,_,rfl,fw.kp,dj,Ad.le_refl _,cx⟩
        ·
         rintro ar _ ku ⟨x_v30,ct,bf,rfl,fx,ai,a9,u⟩
         clear cx
         obtain _ | ar:=ar
         ·
          rw [D9] at u; cases u
         rw [D9] at u
         replace g:=g.mono a9
         replace d:=d.mono a9
         replace e:=e.mono a9
         refine XT (XT (Aa (Rk 0 5 ((tB 104 (decide (x_v30<((r_.spares.length:Nat):Int))))::(FW x_v30)) fx ai fun jm b8=>?_)))
         refine wf (wC (decide (x_v30<((r_.spares.length:Nat):Int))) b8 (fun bz=>?_) (fun bz=>?_))
         ·
          rw [bz,XW] at u
          refine wp_skip (XT (wp_block (XT (Al (by kernel_rfl) ?_))))
          replace ai:=ai.drew
          refine Am [] [(a,0)] [⟨Fh p r_ q i l k m,some 28⟩] ?_
          refine Dr [0,1,2] [2,1,0] ((tI 109 x_v30)::(tS 108 k r_.spares.length m)::(FW x_v30)) b8 ai fun jn fy=>?_
          obtain⟨x110,ex110,u⟩:=Ao u
          obtain⟨g2,g7,hn⟩:=Ai ex110
          obtain⟨aa,af,ic,ej,hd,eo⟩:=e.get (by decide) hn
          obtain⟨_,_,rfl,rfl,rfl⟩:=hd
          have ch:=ai.addPlc (b:=aa) (o:=af+(x_v30:Int).toNat*2) (cs:=[.int .i64 x110.stop,.int .i64 x110.tm]) (fun j c hj=>eo j _ (Aj hj)) rfl (by kernel_rfl) (by kernel_rfl)
          refine A2 3 (x_v30) [.int .i64 x110.stop,.int .i64 x110.tm] (fun _ _ _ _ _ h=>h) rfl rfl (rfl) rfl (by decide) (by kernel_rfl) (by kernel_rfl) fy ai.plOk (by rfl) (by rfl) (by rfl) ej (by rfl) g2 g7 (by kernel_rfl) fun h1 (fz:Kn 128 [(a,0),(aa,af+(x_v30:Int).toNat*2)] ((tP 110 1 0)::(tI 109 x_v30)::(tS 108 k r_.spares.length m)::(FW x_v30)) h1)=>?_
          refine Dr [4,5,6] (dn 6) ((tA 113 (Fh p r_ q i l k m))::(tI 112 x110.stop)::(FW x_v30)) fz ch fun jo f0=>?_
          obtain⟨x114,ex114,u⟩:=Ao u
          refine Dl 7 fun K hK=>?_
          refine wc [.agg (Fh p r_ q i l k m)] f0 ch (Lc ar ch.has r_ ((Ab (Ae g) (Ab (Ab Ac Ac) (Ab (Ae d) (Ab (Ae e) (Ab Ac (Ab Ac (Ab Ac Ac))))))):rep bf r_ _) ex114) fun kb ik kv d9 bi bn=>?_
          obtain rfl:=d9
          refine⟨.one (.c (.int .i64 x114)),rfl,fun h2 (f1:Kn 128 [(a,0),(aa,af+(x_v30:Int).toNat*2)] ((tI 114 x114)::(tA 113 (Fh p r_ q i l k m))::(tI 112 x110.stop)::(FW x_v30)) h2)=>hK _ _ bn.plOk ?_⟩
          refine Dr [8] (dn 8) ((tI 115 (IntKind.i64.wrap (x114-1)))::(tI 112 x110.stop)::(FW x_v30)) f1 bn fun jp f2=>?_
          obtain⟨x116,ex116,u⟩:=Ao u
          refine Dl 9 fun K hK=>?_
          refine wc [.c (.int .i64 x110.stop),.c (.int .i64 0),.c (.int .i64 (IntKind.i64.wrap (x114-1)))] f2 bn (Ew ar bn.has x110.stop 0 (IntKind.i64.wrap (x114-1)) ex116) fun kc il kw ea bj ad=>?_
          replace g:=g.mono (XU bi bj)
          replace d:=d.mono (XU bi bj)
          replace e:=e.mono (XU bi bj)
          obtain rfl:=ea
          refine⟨.one (.c (.bool x116)),rfl,fun h3 (f3:Kn 128 [(a,0),(aa,af+(x_v30:Int).toNat*2)] ((tB 116 x116)::(tI 115 (IntKind.i64.wrap (x114-1)))::(tI 112 x110.stop)::(FW x_v30)) h3)=>hK _ _ ad.plOk ?_⟩
          refine Dr [10,11] (dn 11) ((tB 118 (!x116))::(FW x_v30)) f3 ad fun dy c5=>?_
          rcases Bool.eq_false_or_eq_true ((!x116)) with a1 | a1
          ·
           rw [a1,XW] at u
           have f4:Kn 128 [(a,0),(aa,af+(x_v30:Int).toNat*2)] ((tB 118 true)::(FW x_v30)) dy:=(c5.setB 118 true (by rfl) a1).kp
           refine Dr [12,13,14,15,16,17,18,19,20] (dn 20) ((tB 127 true)::(FW x_v30)) f4 ad fun jr c6=>?_
           refine A1 (by kernel_rfl) (wC true c6 (fun hb=>?_) (fun hb=>?_))
           rotate_left
           ·
            cases hb
           refine XT (Aa (Rk 0 1 [tI 2 1] c6 ad fun js f5=>?_))
           refine wf (wp_ret ?_)
           obtain rfl:=XZ u
           obtain rfl:=XZ H
           exact rt (.one (.c (.int .i64 1))) f5 ad rfl
          ·
           rw [a1,XV] at u
           have f6:Kn 128 [(a,0),(aa,af+(x_v30:Int).toNat*2)] ((tB 118 false)::(FW x_v30)) dy:=(c5.setB 118 false (by rfl) a1).kp
           refine Dr [12,13,14] (dn 14) ((tI 121 x_v30)::(tS 120 k r_.spares.length m)::(tB 118 false)::(FW x_v30)) f6 ad fun jt c7=>?_
           obtain⟨x122,ex122,u⟩:=Ao u
           obtain⟨g3,g8,ho⟩:=Ai ex122
           obtain⟨br,cl,ie,ek,he,ep⟩:=e.get (by decide) ho
           obtain⟨_,_,rfl,rfl,rfl⟩:=he
           have ci:=ad.addPlc (b:=br) (o:=cl+(x_v30:Int).toNat*2) (cs:=[.int .i64 x122.stop,.int .i64 x122.tm]) (fun j c hj=>ep j _ (Aj hj)) rfl (by kernel_rfl) (by kernel_rfl)
           refine A2 15 (x_v30) [.int .i64 x122.stop,.int .i64 x122.tm] (fun _ _ _ _ _ h=>h) rfl rfl (Ak c7 (by kernel_rfl)) rfl (by decide) (by kernel_rfl) (by kernel_rfl) c7 ad.plOk (by rfl) (by rfl) (by rfl) ek (by rfl) g3 g8 (by kernel_rfl) fun h4 (f8:Kn 128 [(a,0),(aa,af+(x_v30:Int).toNat*2),(br,cl+(x_v30:Int).toNat*2)] ((tP 122 2 0)::(tI 121 x_v30)::(tS 120 k r_.spares.length m)::(tB 118 false)::(FW x_v30)) h4)=>?_
           refine Dr [16,17] (dn 17) ((tI 124 x122.tm)::(tB 118 false)::(FW x_v30)) f8 ci fun ju c8=>?_
           obtain⟨x125,ex125,u⟩:=Ao u
           refine FB 18 rfl (by kernel_rfl) (by decide) (Ak c8 (by kernel_rfl)) fun K hK=>?_
           refine wc [.c (.int .i64 x122.tm),.c (.int .i64 0),.c (.int .i64 2000)] c8 ci (Ew ar ci.has x122.tm 0 2000 ex125) fun kd im kx eb gy am=>?_
           obtain rfl:=eb
           refine⟨.one (.c (.bool x125)),rfl,fun h5 (f9:Kn 128 [(a,0),(aa,af+(x_v30:Int).toNat*2),(br,cl+(x_v30:Int).toNat*2)] ((tB 125 x125)::(tI 124 x122.tm)::(tB 118 false)::(FW x_v30)) h5)=>hK _ _ am.plOk ?_⟩
           refine Dr [19,20] (dn 20) ((tB 127 (!x125))::(FW x_v30)) f9 am fun jv b9=>?_
           refine A1 (by kernel_rfl) (wC ((!x125)) b9 (fun b1=>?_) (fun b1=>?_))
           ·
            rw [b1,XW] at u
            refine XT (Aa (Rk 0 1 [tI 2 1] b9 am fun jw ga=>?_))
            refine wf (wp_ret ?_)
            obtain rfl:=XZ u
            obtain rfl:=XZ H
            exact rt (.one (.c (.int .i64 1))) ga am rfl
           ·
            rw [b1,XV] at u
            refine wp_skip (Aa (Rk 0 3 [tI 5 (IntKind.i64.wrap (x_v30+1)),tP 1 0 0] b9 am fun jx gb=>?_))
            refine wf ?_
            exact XY ar ⟨Nat.lt_succ_self _,XY (IntKind.i64.wrap (x_v30+1)) ⟨_,_,rfl,(gb.keep [5,1] (by rfl)).cut 1 (by kernel_rfl),am.cutPl 1 (by kernel_rfl),XU a9 (XU bi (XU bj gy)),u⟩⟩
         ·
          rw [bz,XV] at u
          refine wp_exit ?_
          obtain rfl:=XZ u
          exact XY () ⟨_,_,rfl,b8.kp,ai,a9,rfl⟩
       ·
        rintro _ ky ⟨du,cr,bs,rfl,gc,dk,ir,rfl⟩
        rw [Ex.bind_go] at H
        refine XT (Aa (Rk 0 1 [tI 2 0] gc dk fun jy gd=>?_))
        refine wf (wp_ret ?_)
        obtain rfl:=XZ H
        exact rt (.one (.c (.int .i64 0))) gd dk rfl
abbrev T7 (b:Option Addr) (r_:Af) (g:Nat) (d:Option Addr) (i:Nat) (e:Option Addr) (j:Nat):List SC:=[.slice b r_.legs.length g,.int .i64 r_.turn.lo,.int .i64 r_.turn.hi,.slice d r_.buses.length i,.slice e r_.spares.length j,.int .i64 r_.unit,.int .i64 r_.gap,.int .i64 r_.fr,.int .i64 r_.to_]
set_option maxRecDepth 100000 in
set_option maxHeartbeats 4000000 in
theorem QN (n:Nat) {h:Ad} {w:World} (hh:Dk h w) (r_:Af) {cs_r_:List Value} (hx_r_:rep h r_ cs_r_) {r:Bool} (H:KB n r_=some r) :
  Calls Try.prog 32 #[.agg cs_r_.toArray] w (Dq (fun h v=>v=.bool r) h w):=by
 obtain⟨_,_,rfl,⟨b,g,rfl,af⟩,⟨_,_,rfl,⟨_,_,rfl,rfl,rfl⟩,⟨_,_,rfl,⟨d,i,rfl,ag⟩,⟨_,_,rfl,⟨e,j,rfl,ah⟩,⟨_,_,rfl,rfl,⟨_,_,rfl,rfl,⟨_,_,rfl,rfl,rfl⟩⟩⟩⟩⟩⟩⟩:=hx_r_
 refine enter 19 [.agg (T7 b r_ g d i e j)] Try.func32 rfl rfl rfl rfl fun t hk=>?_
 have hm:=Ah.begin h w hh
 unfold KB at H
 refine XT (Aa (wl fun K hK=>?_))
 refine wb (.agg (T7 b r_ g d i e j)) hk hm fun f ae am (s:Kn 19 [(f,0)] [tP 1 0 0,tA 0 (T7 b r_ g d i e j)] ae) a=>hK _ _ ?_
 refine Rk 1 1 [tP 1 0 0] s a fun ai u=>?_
 refine wf (XT (Aa (Rk 0 5 [tB 7 (decide (((r_.legs.length:Nat):Int)≤10)),tP 1 0 0] u a fun p m=>?_)))
 rcases Bool.eq_false_or_eq_true (decide (((r_.legs.length:Nat):Int)≤10)) with k | k
 ·
  rw [k,XW] at H
  have x:Kn 19 [(f,0)] [tB 7 true,tP 1 0 0] p:=(m.setB 7 true (by rfl) k).kp
  refine Rk 5 6 [tB 13 (decide (((r_.buses.length:Nat):Int)≤6)),tP 1 0 0] x a fun q o=>?_
  rcases Bool.eq_false_or_eq_true (decide (((r_.buses.length:Nat):Int)≤6)) with l | l
  ·
   rw [l,XW] at H
   have y:Kn 19 [(f,0)] [tB 13 true,tP 1 0 0] q:=(o.setB 13 true (by rfl) l).kp
   refine Rk 11 6 [tB 2 (decide (((r_.spares.length:Nat):Int)≤4))] y a fun aj z=>?_
   refine wf (wp_ret ?_)
   obtain rfl:=XZ H
   exact rt (.one (.c (.bool (decide (((r_.spares.length:Nat):Int)≤4))))) z a rfl
  ·
   rw [l,XV] at H
   have aa:Kn 19 [(f,0)] [tB 13 false,tP 1 0 0] q:=(o.setB 13 false (by rfl) l).kp
   refine Rk 11 6 [tB 2 false] aa a fun ak ab=>?_
   refine wf (wp_ret ?_)
   obtain rfl:=XZ H
   exact rt (.one (.c (.bool false))) ab a rfl
 ·
  rw [k,XV] at H
  have ac:Kn 19 [(f,0)] [tB 7 false,tP 1 0 0] p:=(m.setB 7 false (by rfl) k).kp
  refine Rk 5 12 [tB 2 false] ac a fun al ad=>?_
  refine wf (wp_ret ?_)
  obtain rfl:=XZ H
  exact rt (.one (.c (.bool false))) ad a rfl
abbrev Jc (a_a:Option Addr) (a:List Int) (c_a:Nat) (a_b:Option Addr) (b:List Int) (c_b:Nat):TM:=[tS 0 a_a a.length c_a,tS 1 a_b b.length c_b]
set_option maxRecDepth 100000 in
set_option maxHeartbeats 4000000 in
theorem GU (n:Nat) {h:Ad} {w:World} (hh:Dk h w) (a:List Int) {a_a:Option Addr} {c_a:Nat} (hr_a:A0 h a_a c_a a) (b:List Int) {a_b:Option Addr} {c_b:Nat} (hr_b:A0 h a_b c_b b) {r:Bool} (H:FQ n a b=some r) :
  Calls Try.prog 44 #[.slice a_a a.length c_a,.slice a_b b.length c_b] w (Dq (fun h v=>v=.bool r) h w):=by
 refine enter 26 [.c (.slice a_a a.length c_a),.c (.slice a_b b.length c_b)] Try.func44 rfl rfl rfl rfl fun t hk=>?_
 have hm:=Ah.begin h w hh
 unfold FQ at H
 refine XT (Aa (Rk 0 1 (Jc a_a a c_a a_b b c_b) hk hm fun bf an=>?_))
 refine wf (XT (XT (Aa (Rk 0 5 ((tB 10 (((a.length:Nat):Int) != ((b.length:Nat):Int)))::(Jc a_a a c_a a_b b c_b)) an hm fun bi u=>?_))))
 refine wf (wC ((((a.length:Nat):Int) != ((b.length:Nat):Int))) u (fun p=>?_) (fun p=>?_))
 ·
  rw [p,XW] at H
  refine XT (Aa (Rk 0 1 [tB 4 false] u hm fun bm az=>?_))
  refine wf (wp_ret ?_)
  obtain rfl:=XZ H
  exact rt (.one (.c (.bool false))) az hm rfl
 ·
  rw [p,XV] at H
  refine wp_skip (XT (XT (Aa (Rk 0 1 ((tI 5 0)::(Jc a_a a c_a a_b b c_b)) u hm fun bp a0=>?_))))
  refine wf ?_
  obtain⟨ag,ae,H⟩:=Ao H
  refine Aw (fun a' w'=>∃ (ai:Unit)(ab:Array Value)(k:Ad),a' = ⟨ab,[]⟩∧Kn 26 [] [] ab∧Ah ⟨w,h,A5⟩ k [] [] [] w'∧Ad.le h k∧ag=.go ai) ?_ ?_
  ·
   refine wp_block ?_
   refine Au (fun a9 a' w'=>∃ (x_v10:Int)(ac:Array Value)(l:Ad),a' = ⟨ac,[]⟩∧Kn 26 [] ((tI 5 x_v10)::(Jc a_a a c_a a_b b c_b)) ac∧Ah ⟨w,h,A5⟩ l [] [] [] w'∧Ad.le h l∧Ed a9 a b x_v10=some ag) n ?_ ?_
   ·
    exact XY 0 ⟨_,_,rfl,a0.kp,hm,Ad.le_refl _,ae⟩
   ·
    rintro z _ bq ⟨x_v10,ac,l,rfl,ao,e,g,d⟩
    clear ae
    obtain _ | z:=z
    ·
     rw [Ed] at d; cases d
    rw [Ed] at d
    replace hr_a:=hr_a.mono g
    replace hr_b:=hr_b.mono g
    refine XT (XT (Aa (Rk 0 4 ((tB 14 (decide (x_v10<((a.length:Nat):Int))))::(tI 5 x_v10)::(Jc a_a a c_a a_b b c_b)) ao e fun bg s=>?_)))
    refine wf (wC (decide (x_v10<((a.length:Nat):Int))) s (fun m=>?_) (fun m=>?_))
    ·
     rw [m,XW] at d
     refine wp_skip (XT (wp_block (XT (Al (by kernel_rfl) ?_))))
     replace e:=e.drew
     refine Am [] [] [] ?_
     refine Dr [0,1] [1,0] ((tI 18 x_v10)::(tS 17 a_a a.length c_a)::(tI 5 x_v10)::(Jc a_a a c_a a_b b c_b)) s e fun bh ap=>?_
     obtain⟨x19,ex19,d⟩:=Ao d
     obtain⟨a1,a3,a7⟩:=Ai ex19
     obtain⟨i,aa,bc,aj,a5,al⟩:=hr_a.get (by decide) a7
     obtain rfl:=a5
     have y:=e.addPlc (b:=i) (o:=aa+(x_v10:Int).toNat*1) (cs:=[.int .i64 x19]) (fun j c hj=>al j _ (Aj hj)) rfl (by kernel_rfl) (by kernel_rfl)
     refine A2 2 (x_v10) [.int .i64 x19] (fun _ _ _ _ _ h=>h) rfl rfl (rfl) rfl (by decide) (by kernel_rfl) (by kernel_rfl) ap e.plOk (by rfl) (by rfl) (by rfl) aj (by rfl) a1 a3 (by kernel_rfl) fun ba (aq:Kn 26 [(i,aa+(x_v10:Int).toNat*1)] ((tP 19 0 0)::(tI 18 x_v10)::(tS 17 a_a a.length c_a)::(tI 5 x_v10)::(Jc a_a a c_a a_b b c_b)) ba)=>?_
     refine Dr [3,4,5] (dn 5) ((tI 22 x_v10)::(tS 21 a_b b.length c_b)::(tI 20 x19)::(tI 5 x_v10)::(Jc a_a a c_a a_b b c_b)) aq y fun bj ar=>?_
     obtain⟨x23,ex23,d⟩:=Ao d
     obtain⟨a2,a4,a8⟩:=Ai ex23
     obtain⟨ad,ah,bd,ak,a6,am⟩:=hr_b.get (by decide) a8
     obtain rfl:=a6
     have f:=y.addPlc (b:=ad) (o:=ah+(x_v10:Int).toNat*1) (cs:=[.int .i64 x23]) (fun j c hj=>am j _ (Aj hj)) rfl (by kernel_rfl) (by kernel_rfl)
     refine A2 6 (x_v10) [.int .i64 x23] (fun _ _ _ _ _ h=>h) rfl rfl (rfl) rfl (by decide) (by kernel_rfl) (by kernel_rfl) ar y.plOk (by rfl) (by rfl) (by rfl) ak (by rfl) a2 a4 (by kernel_rfl) fun bb (au:Kn 26 [(i,aa+(x_v10:Int).toNat*1),(ad,ah+(x_v10:Int).toNat*1)] ((tP 23 1 0)::(tI 22 x_v10)::(tS 21 a_b b.length c_b)::(tI 20 x19)::(tI 5 x_v10)::(Jc a_a a c_a a_b b c_b)) bb)=>?_
     refine Dr [7,8] (dn 8) ((tB 25 (x19 != x23))::(tI 5 x_v10)::(Jc a_a a c_a a_b b c_b)) au f fun bk x=>?_
     refine A1 (by kernel_rfl) (wC ((x19 != x23)) x (fun q=>?_) (fun q=>?_))
     ·
      rw [q,XW] at d
      refine XT (Aa (Rk 0 1 [tB 4 false] x f fun bl av=>?_))
      refine wf (wp_ret ?_)
      obtain rfl:=XZ d
      obtain rfl:=XZ H
      exact rt (.one (.c (.bool false))) av f rfl
     ·
      rw [q,XV] at d
      refine wp_skip (Aa (Rk 0 3 ((tI 5 (IntKind.i64.wrap (x_v10+1)))::(Jc a_a a c_a a_b b c_b)) x f fun bn aw=>?_))
      refine wf ?_
      exact XY z ⟨Nat.lt_succ_self _,XY (IntKind.i64.wrap (x_v10+1)) ⟨_,_,rfl,(aw.keep [5,0,1] (by rfl)).cut 0 (by kernel_rfl),f.cutPl 0 (by kernel_rfl),g,d⟩⟩
    ·
     rw [m,XV] at d
     refine wp_exit ?_
     obtain rfl:=XZ d
     exact XY () ⟨_,_,rfl,s.kp,e,g,rfl⟩
  ·
   rintro _ br ⟨ai,ab,k,rfl,ax,af,be,rfl⟩
   rw [Ex.bind_go] at H
   refine XT (Aa (Rk 0 1 [tB 4 true] ax af fun bo ay=>?_))
   refine wf (wp_ret ?_)
   obtain rfl:=XZ H
   exact rt (.one (.c (.bool true))) ay af rfl
end Go.Proofs.Ytokchpjijlebiaa
