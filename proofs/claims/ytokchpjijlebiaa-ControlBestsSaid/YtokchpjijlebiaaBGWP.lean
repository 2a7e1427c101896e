/- Each call computes its plain function. -/
import Derived.Test.YtokchpjijlebiaaProg
import Derived.Test.YtokchpjijlebiaaBGP0
set_option linter.all false
namespace Go.Proofs.Ytokchpjijlebiaa
open Go Go.RowKit
open Rep (rep)
open KRep (kv)
open VRep (rv)
set_option maxRecDepth 100000 in
set_option maxHeartbeats 4000000 in
theorem C6 (n:Nat) {h:Ae} {w:World} (hh:Dn h w) (n_:Int) (low:Int) (high:Int) {r:Bool} (H:Bv n n_ low high=some r) :
  Calls Try.prog 84 #[.int .i64 n_,.int .i64 low,.int .i64 high] w (Dp (fun h v=>v=.bool r) h w):=by
 refine enter 15 [.c (.int .i64 n_),.c (.int .i64 low),.c (.int .i64 high)] Try.func84 rfl rfl rfl rfl fun t hk=>?_
 have hm:=Ah.begin h w hh
 unfold Bv at H
 refine XT (Aa (Rk 0 1 [tI 0 n_,tI 1 low,tI 2 high] hk hm fun k f=>?_))
 refine wf (XT (Aa (Rk 0 4 [tB 10 (decide (low≤n_)),tI 0 n_,tI 2 high] f hm fun d b=>?_)))
 rcases Bool.eq_false_or_eq_true (decide (low≤n_)) with a | a
 ·
  rw [a,XW] at H
  have g:Kn 15 [] [tB 10 true,tI 0 n_,tI 2 high] d:=(b.setB 10 true (by rfl) a).kp
  refine Rk 4 5 [tB 6 (decide (n_≤high))] g hm fun m i=>?_
  refine wf (wp_ret ?_)
  obtain rfl:=XZ H
  exact rt (.one (.c (.bool (decide (n_≤high))))) i hm rfl
 ·
  rw [a,XV] at H
  have j:Kn 15 [] [tB 10 false,tI 0 n_,tI 2 high] d:=(b.setB 10 false (by rfl) a).kp
  refine Rk 4 5 [tB 6 false] j hm fun l e=>?_
  refine wf (wp_ret ?_)
  obtain rfl:=XZ H
  exact rt (.one (.c (.bool false))) e hm rfl
set_option maxRecDepth 100000 in
set_option maxHeartbeats 4000000 in
theorem Ej (n:Nat) {h:Ae} {w:World} (hh:Dn h w) (n_:Int) {r:Bool} (H:C1 n n_=some r) :
  Calls Try.prog 78 #[.int .i64 n_] w (Dp (fun h v=>v=.bool r) h w):=by
 refine enter 5 [.c (.int .i64 n_)] Try.func78 rfl rfl rfl rfl fun t hk=>?_
 have hm:=Ah.begin h w hh
 unfold C1 at H
 refine XT (Aa (Rk 0 1 [tI 0 n_] hk hm fun l f=>?_))
 refine wf (XT (Aa (Rk 0 1 [tI 3 n_] f hm fun o g=>?_)))
 obtain⟨x4,ex4,H⟩:=Aq H
 refine wl fun K hK=>?_
 refine wc [.c (.int .i64 n_),.c (.int .i64 0),.c (.int .i64 2000)] g hm (C6 n hm.has n_ 0 2000 ex4) fun p j q b k a=>?_
 obtain rfl:=b
 refine⟨.one (.c (.bool x4)),rfl,fun i (d:Kn 5 [] [tB 4 x4,tI 3 n_] i)=>hK _ _ ?_⟩
 refine Rk 2 1 [tB 2 x4] d a fun m e=>?_
 refine wf (wp_ret ?_)
 obtain rfl:=XZ H
 exact rt (.one (.c (.bool x4))) e a rfl
abbrev SB (a:Option Addr) (r_:Af) (e:Nat) (b:Option Addr) (f:Nat) (d:Option Addr) (g:Nat):List SC:=[.slice a r_.legs.length e,.int .i64 r_.turn.lo,.int .i64 r_.turn.hi,.slice b r_.buses.length f,.slice d r_.spares.length g,.int .i64 r_.unit,.int .i64 r_.gap,.int .i64 r_.fr,.int .i64 r_.to_]
set_option maxRecDepth 100000 in
set_option maxHeartbeats 4000000 in
theorem CE (n:Nat) {h:Ae} {w:World} (hh:Dn h w) (r_:Af) {cs_r_:List Value} (hx_r_:rep h r_ cs_r_) {r:Int} (H:Bz n r_=some r) :
  Calls Try.prog 92 #[.agg cs_r_.toArray] w (Dp (fun h v=>v=.int .i64 r) h w):=by
 obtain⟨_,_,rfl,⟨a,e,rfl,q⟩,⟨_,_,rfl,⟨_,_,rfl,rfl,rfl⟩,⟨_,_,rfl,⟨b,f,rfl,s⟩,⟨_,_,rfl,⟨d,g,rfl,u⟩,⟨_,_,rfl,rfl,⟨_,_,rfl,rfl,⟨_,_,rfl,rfl,rfl⟩⟩⟩⟩⟩⟩⟩:=hx_r_
 refine enter 7 [.agg (SB a r_ e b f d g)] Try.func92 rfl rfl rfl rfl fun t hk=>?_
 have hm:=Ah.begin h w hh
 unfold Bz at H
 refine XT (Aa (wl fun K hK=>?_))
 refine wb (.agg (SB a r_ e b f d g)) hk hm fun j o p (k:Kn 7 [(j,0)] [tP 1 0 0,tA 0 (SB a r_ e b f d g)] o) (i:Ah ⟨w,h,Aj⟩ h [(j,0)] [⟨SB a r_ e b f d g,some 43⟩] [] p)=>hK _ _ ?_
 refine Rk 1 1 [tP 1 0 0] k i fun x l=>?_
 refine wf (XT (Aa (Rk 0 5 [tI 2 (IntKind.i64.wrap (((r_.legs.length:Nat):Int)+1))] l i fun y m=>?_)))
 refine wf (wp_ret ?_)
 obtain rfl:=XZ H
 exact rt (.one (.c (.int .i64 (IntKind.i64.wrap (((r_.legs.length:Nat):Int)+1))))) m i rfl
abbrev Ou (a:Option Addr) (r_:Af) (e:Nat) (b:Option Addr) (f:Nat) (d:Option Addr) (g:Nat):List SC:=[.slice a r_.legs.length e,.int .i64 r_.turn.lo,.int .i64 r_.turn.hi,.slice b r_.buses.length f,.slice d r_.spares.length g,.int .i64 r_.unit,.int .i64 r_.gap,.int .i64 r_.fr,.int .i64 r_.to_]
set_option maxRecDepth 100000 in
set_option maxHeartbeats 4000000 in
theorem DF (n:Nat) {h:Ae} {w:World} (hh:Dn h w) (r_:Af) {cs_r_:List Value} (hx_r_:rep h r_ cs_r_) {r:Int} (H:BE n r_=some r) :
  Calls Try.prog 79 #[.agg cs_r_.toArray] w (Dp (fun h v=>v=.int .i64 r) h w):=by
 obtain⟨_,_,rfl,⟨a,e,rfl,u⟩,⟨_,_,rfl,⟨_,_,rfl,rfl,rfl⟩,⟨_,_,rfl,⟨b,f,rfl,x⟩,⟨_,_,rfl,⟨d,g,rfl,y⟩,⟨_,_,rfl,rfl,⟨_,_,rfl,rfl,⟨_,_,rfl,rfl,rfl⟩⟩⟩⟩⟩⟩⟩:=hx_r_
 refine enter 6 [.agg (Ou a r_ e b f d g)] Try.func79 rfl rfl rfl rfl fun t hk=>?_
 have hm:=Ah.begin h w hh
 unfold BE at H
 refine XT (Aa (wl fun K hK=>?_))
 refine wb (.agg (Ou a r_ e b f d g)) hk hm fun j z ab (m:Kn 6 [(j,0)] [tP 1 0 0,tA 0 (Ou a r_ e b f d g)] z) (i:Ah ⟨w,h,Aj⟩ h [(j,0)] [⟨Ou a r_ e b f d g,some 43⟩] [] ab)=>hK _ _ ?_
 refine Rk 1 1 [tP 1 0 0] m i fun ae o=>?_
 refine wf (XT (Aa (Rk 0 1 [tA 3 (Ou a r_ e b f d g)] o i fun af p=>?_)))
 obtain⟨x4,ex4,H⟩:=Aq H
 refine wl fun K hK=>?_
 refine wc [.agg (Ou a r_ e b f d g)] p i (CE n i.has r_ ((Ab (Ad u) (Ab (Ab Ac Ac) (Ab (Ad x) (Ab (Ad y) (Ab Ac (Ab Ac (Ab Ac Ac))))))):rep h r_ _) ex4) fun ah ac ai l ad k=>?_
 obtain rfl:=l
 refine⟨.one (.c (.int .i64 x4)),rfl,fun aa (q:Kn 6 [(j,0)] [tI 4 x4,tA 3 (Ou a r_ e b f d g)] aa)=>hK _ _ ?_⟩
 refine Rk 2 2 [tI 2 (IntKind.i64.wrap (Int.tdiv x4 2))] q k fun ag s=>?_
 refine wf (wp_ret ?_)
 obtain rfl:=XZ H
 exact rt (.one (.c (.int .i64 (IntKind.i64.wrap (Int.tdiv x4 2))))) s k rfl
abbrev Ov (a:Option Addr) (r_:Af) (e:Nat) (b:Option Addr) (f:Nat) (d:Option Addr) (g:Nat):List SC:=[.slice a r_.legs.length e,.int .i64 r_.turn.lo,.int .i64 r_.turn.hi,.slice b r_.buses.length f,.slice d r_.spares.length g,.int .i64 r_.unit,.int .i64 r_.gap,.int .i64 r_.fr,.int .i64 r_.to_]
set_option maxRecDepth 100000 in
set_option maxHeartbeats 4000000 in
theorem Eg (n:Nat) {h:Ae} {w:World} (hh:Dn h w) (r_:Af) {cs_r_:List Value} (hx_r_:rep h r_ cs_r_) (n_:Int) {r:Bool} (H:BR n r_ n_=some r) :
  Calls Try.prog 64 #[.agg cs_r_.toArray,.int .i64 n_] w (Dp (fun h v=>v=.bool r) h w):=by
 obtain⟨_,_,rfl,⟨a,e,rfl,aa⟩,⟨_,_,rfl,⟨_,_,rfl,rfl,rfl⟩,⟨_,_,rfl,⟨b,f,rfl,ab⟩,⟨_,_,rfl,⟨d,g,rfl,ac⟩,⟨_,_,rfl,rfl,⟨_,_,rfl,rfl,⟨_,_,rfl,rfl,rfl⟩⟩⟩⟩⟩⟩⟩:=hx_r_
 refine enter 10 [.agg (Ov a r_ e b f d g),.c (.int .i64 n_)] Try.func64 rfl rfl rfl rfl fun t hk=>?_
 have hm:=Ah.begin h w hh
 unfold BR at H
 refine XT (Aa (wl fun K hK=>?_))
 refine wb (.agg (Ov a r_ e b f d g)) hk hm fun i ad ag (p:Kn 10 [(i,0)] [tP 2 0 0,tA 0 (Ov a r_ e b f d g),tI 1 n_] ad) (j:Ah ⟨w,h,Aj⟩ h [(i,0)] [⟨Ov a r_ e b f d g,some 43⟩] [] ag)=>hK _ _ ?_
 refine Rk 1 1 [tP 2 0 0,tI 1 n_] p j fun al q=>?_
 refine wf (XT (Aa (Rk 0 2 [tA 6 (Ov a r_ e b f d g),tI 5 n_] q j fun am s=>?_)))
 obtain⟨x7,ex7,H⟩:=Aq H
 refine wl fun K hK=>?_
 refine wc [.agg (Ov a r_ e b f d g)] s j (CE n j.has r_ ((Ab (Ad aa) (Ab (Ab Ac Ac) (Ab (Ad ab) (Ab (Ad ac) (Ab Ac (Ab Ac (Ab Ac Ac))))))):rep h r_ _) ex7) fun ap ah ar m aj k=>?_
 obtain rfl:=m
 refine⟨.one (.c (.int .i64 x7)),rfl,fun ae (u:Kn 10 [(i,0)] [tI 7 x7,tA 6 (Ov a r_ e b f d g),tI 5 n_] ae)=>hK _ _ ?_⟩
 refine Rk 3 1 [tI 8 (IntKind.i64.wrap (x7-1)),tI 5 n_] u k fun an x=>?_
 obtain⟨x9,ex9,H⟩:=Aq H
 refine wl fun K hK=>?_
 refine wc [.c (.int .i64 n_),.c (.int .i64 0),.c (.int .i64 (IntKind.i64.wrap (x7-1)))] x k (C6 n k.has n_ 0 (IntKind.i64.wrap (x7-1)) ex9) fun aq ai au o ak l=>?_
 obtain rfl:=o
 refine⟨.one (.c (.bool x9)),rfl,fun af (y:Kn 10 [(i,0)] [tB 9 x9,tI 8 (IntKind.i64.wrap (x7-1)),tI 5 n_] af)=>hK _ _ ?_⟩
 refine Rk 5 1 [tB 4 x9] y l fun ao z=>?_
 refine wf (wp_ret ?_)
 obtain rfl:=XZ H
 exact rt (.one (.c (.bool x9))) z l rfl
set_option maxRecDepth 100000 in
set_option maxHeartbeats 4000000 in
theorem FH (n:Nat) {h:Ae} {w:World} (hh:Dn h w) (r_:Rg) {cs_r_:List Value} (hx_r_:rep h r_ cs_r_) (most:Int) {r:Bool} (H:Cp n r_ most=some r) :
  Calls Try.prog 76 #[.agg cs_r_.toArray,.int .i64 most] w (Dp (fun h v=>v=.bool r) h w):=by
 obtain⟨_,_,rfl,rfl,rfl⟩:=hx_r_
 refine enter 21 [.agg [.int .i64 r_.lo,.int .i64 r_.hi],.c (.int .i64 most)] Try.func76 rfl rfl rfl rfl fun t hk=>?_
 have hm:=Ah.begin h w hh
 unfold Cp at H
 refine XT (Aa (wl fun K hK=>?_))
 refine wb (.agg [.int .i64 r_.lo,.int .i64 r_.hi]) hk hm fun b y z (u:Kn 21 [(b,0)] [tP 2 0 0,tA 0 [.int .i64 r_.lo,.int .i64 r_.hi],tI 1 most] y) (a:Ah ⟨w,h,Aj⟩ h [(b,0)] [⟨[.int .i64 r_.lo,.int .i64 r_.hi],some 39⟩] [] z)=>hK _ _ ?_
 refine Rk 1 1 [tP 2 0 0,tI 1 most] u a fun ad x=>?_
 refine wf (XT (Aa (Rk 0 4 [tB 8 (decide (0≤r_.lo)),tP 2 0 0,tI 1 most] x a fun j g=>?_)))
 rcases Bool.eq_false_or_eq_true (decide (0≤r_.lo)) with d | d
 ·
  rw [d,XW] at H
  have k:Kn 21 [(b,0)] [tB 8 true,tP 2 0 0,tI 1 most] j:=(g.setB 8 true (by rfl) d).kp
  refine Rk 4 7 [tB 15 (decide (r_.lo≤r_.hi)),tP 2 0 0,tI 1 most] k a fun i f=>?_
  rcases Bool.eq_false_or_eq_true (decide (r_.lo≤r_.hi)) with e | e
  ·
   rw [e,XW] at H
   have l:Kn 21 [(b,0)] [tB 15 true,tP 2 0 0,tI 1 most] i:=(f.setB 15 true (by rfl) e).kp
   refine Rk 11 6 [tB 4 (decide (r_.hi≤most))] l a fun aa m=>?_
   refine wf (wp_ret ?_)
   obtain rfl:=XZ H
   exact rt (.one (.c (.bool (decide (r_.hi≤most))))) m a rfl
  ·
   rw [e,XV] at H
   have o:Kn 21 [(b,0)] [tB 15 false,tP 2 0 0,tI 1 most] i:=(f.setB 15 false (by rfl) e).kp
   refine Rk 11 6 [tB 4 false] o a fun ab p=>?_
   refine wf (wp_ret ?_)
   obtain rfl:=XZ H
   exact rt (.one (.c (.bool false))) p a rfl
 ·
  rw [d,XV] at H
  have q:Kn 21 [(b,0)] [tB 8 false,tP 2 0 0,tI 1 most] j:=(g.setB 8 false (by rfl) d).kp
  refine Rk 4 13 [tB 4 false] q a fun ac s=>?_
  refine wf (wp_ret ?_)
  obtain rfl:=XZ H
  exact rt (.one (.c (.bool false))) s a rfl
set_option maxRecDepth 100000 in
set_option maxHeartbeats 4000000 in
theorem F9 (n:Nat) {h:Ae} {w:World} (hh:Dn h w) (r_:Rg) {cs_r_:List Value} (hx_r_:rep h r_ cs_r_) {r:Bool} (H:B0 n r_=some r) :
  Calls Try.prog 81 #[.agg cs_r_.toArray] w (Dp (fun h v=>v=.bool r) h w):=by
 obtain⟨_,_,rfl,rfl,rfl⟩:=hx_r_
 refine enter 5 [.agg [.int .i64 r_.lo,.int .i64 r_.hi]] Try.func81 rfl rfl rfl rfl fun t hk=>?_
 have hm:=Ah.begin h w hh
 unfold B0 at H
 refine XT (Aa (wl fun K hK=>?_))
 refine wb (.agg [.int .i64 r_.lo,.int .i64 r_.hi]) hk hm fun b m o (i:Kn 5 [(b,0)] [tP 1 0 0,tA 0 [.int .i64 r_.lo,.int .i64 r_.hi]] m) (a:Ah ⟨w,h,Aj⟩ h [(b,0)] [⟨[.int .i64 r_.lo,.int .i64 r_.hi],some 39⟩] [] o)=>hK _ _ ?_
 refine Rk 1 1 [tP 1 0 0] i a fun u j=>?_
 refine wf (XT (Aa (Rk 0 1 [tA 3 [.int .i64 r_.lo,.int .i64 r_.hi]] j a fun x k=>?_)))
 obtain⟨x4,ex4,H⟩:=Aq H
 refine wl fun K hK=>?_
 refine wc [.agg [.int .i64 r_.lo,.int .i64 r_.hi],.c (.int .i64 300)] k a (FH n a.has r_ ((Ab Ac Ac):rep h r_ _) 300 ex4) fun y p z e q d=>?_
 obtain rfl:=e
 refine⟨.one (.c (.bool x4)),rfl,fun l (f:Kn 5 [(b,0)] [tB 4 x4,tA 3 [.int .i64 r_.lo,.int .i64 r_.hi]] l)=>hK _ _ ?_⟩
 refine Rk 2 1 [tB 2 x4] f d fun s g=>?_
 refine wf (wp_ret ?_)
 obtain rfl:=XZ H
 exact rt (.one (.c (.bool x4))) g d rfl
set_option maxRecDepth 100000 in
set_option maxHeartbeats 4000000 in
theorem JI (n:Nat) {h:Ae} {w:World} (hh:Dn h w) (r_:Rg) {cs_r_:List Value} (hx_r_:rep h r_ cs_r_) {r:Int} (H:Ce n r_=some r) :
  Calls Try.prog 68 #[.agg cs_r_.toArray] w (Dp (fun h v=>v=.int .i64 r) h w):=by
 obtain⟨_,_,rfl,rfl,rfl⟩:=hx_r_
 refine enter 5 [.agg [.int .i64 r_.lo,.int .i64 r_.hi]] Try.func68 rfl rfl rfl rfl fun t hk=>?_
 have hm:=Ah.begin h w hh
 unfold Ce at H
 refine XT (Aa (wl fun K hK=>?_))
 refine wb (.agg [.int .i64 r_.lo,.int .i64 r_.hi]) hk hm fun b g i (d:Kn 5 [(b,0)] [tP 1 0 0,tA 0 [.int .i64 r_.lo,.int .i64 r_.hi]] g) (a:Ah ⟨w,h,Aj⟩ h [(b,0)] [⟨[.int .i64 r_.lo,.int .i64 r_.hi],some 39⟩] [] i)=>hK _ _ ?_
 refine Rk 1 1 [tP 1 0 0] d a fun j e=>?_
 refine wf (XT (Aa (Rk 0 3 [tI 2 r_.lo] e a fun k f=>?_)))
 refine wf (wp_ret ?_)
 obtain rfl:=XZ H
 exact rt (.one (.c (.int .i64 r_.lo))) f a rfl
set_option maxRecDepth 100000 in
set_option maxHeartbeats 4000000 in
theorem IZ (n:Nat) {h:Ae} {w:World} (hh:Dn h w) (r_:Rg) {cs_r_:List Value} (hx_r_:rep h r_ cs_r_) {r:Int} (H:BS n r_=some r) :
  Calls Try.prog 69 #[.agg cs_r_.toArray] w (Dp (fun h v=>v=.int .i64 r) h w):=by
 obtain⟨_,_,rfl,rfl,rfl⟩:=hx_r_
 refine enter 5 [.agg [.int .i64 r_.lo,.int .i64 r_.hi]] Try.func69 rfl rfl rfl rfl fun t hk=>?_
 have hm:=Ah.begin h w hh
 unfold BS at H
 refine XT (Aa (wl fun K hK=>?_))
 refine wb (.agg [.int .i64 r_.lo,.int .i64 r_.hi]) hk hm fun b g i (d:Kn 5 [(b,0)] [tP 1 0 0,tA 0 [.int .i64 r_.lo,.int .i64 r_.hi]] g) (a:Ah ⟨w,h,Aj⟩ h [(b,0)] [⟨[.int .i64 r_.lo,.int .i64 r_.hi],some 39⟩] [] i)=>hK _ _ ?_
 refine Rk 1 1 [tP 1 0 0] d a fun j e=>?_
 refine wf (XT (Aa (Rk 0 3 [tI 2 r_.hi] e a fun k f=>?_)))
 refine wf (wp_ret ?_)
 obtain rfl:=XZ H
 exact rt (.one (.c (.int .i64 r_.hi))) f a rfl
abbrev SD (a:Option Addr) (r_:Af) (e:Nat) (b:Option Addr) (f:Nat) (d:Option Addr) (g:Nat):List SC:=[.slice a r_.legs.length e,.int .i64 r_.turn.lo,.int .i64 r_.turn.hi,.slice b r_.buses.length f,.slice d r_.spares.length g,.int .i64 r_.unit,.int .i64 r_.gap,.int .i64 r_.fr,.int .i64 r_.to_]
set_option maxRecDepth 100000 in
set_option maxHeartbeats 4000000 in
theorem HY (n:Nat) {h:Ae} {w:World} (hh:Dn h w) (r_:Af) {cs_r_:List Value} (hx_r_:rep h r_ cs_r_) (n_:Int) {r:Bool} (H:BU n r_ n_=some r) :
  Calls Try.prog 95 #[.agg cs_r_.toArray,.int .i64 n_] w (Dp (fun h v=>v=.bool r) h w):=by
 obtain⟨_,_,rfl,⟨a,e,rfl,ab⟩,⟨_,_,rfl,⟨_,_,rfl,rfl,rfl⟩,⟨_,_,rfl,⟨b,f,rfl,ac⟩,⟨_,_,rfl,⟨d,g,rfl,ad⟩,⟨_,_,rfl,rfl,⟨_,_,rfl,rfl,⟨_,_,rfl,rfl,rfl⟩⟩⟩⟩⟩⟩⟩:=hx_r_
 refine enter 11 [.agg (SD a r_ e b f d g),.c (.int .i64 n_)] Try.func95 rfl rfl rfl rfl fun t hk=>?_
 have hm:=Ah.begin h w hh
 unfold BU at H
 refine XT (Aa (wl fun K hK=>?_))
 refine wb (.agg (SD a r_ e b f d g)) hk hm fun j u y (m:Kn 11 [(j,0)] [tP 2 0 0,tA 0 (SD a r_ e b f d g),tI 1 n_] u) (i:Ah ⟨w,h,Aj⟩ h [(j,0)] [⟨SD a r_ e b f d g,some 43⟩] [] y)=>hK _ _ ?_
 refine Rk 1 1 [tP 2 0 0,tI 1 n_] m i fun ae o=>?_
 refine wf (XT (Aa (Rk 0 5 [tI 9 r_.to_,tI 7 r_.fr,tI 5 n_] o i fun af p=>?_)))
 obtain⟨x10,ex10,H⟩:=Aq H
 refine wl fun K hK=>?_
 refine wc [.c (.int .i64 n_),.c (.int .i64 r_.fr),.c (.int .i64 r_.to_)] p i (C6 n i.has n_ r_.fr r_.to_ ex10) fun ah z ai l aa k=>?_
 obtain rfl:=l
 refine⟨.one (.c (.bool x10)),rfl,fun x (q:Kn 11 [(j,0)] [tB 10 x10,tI 9 r_.to_,tI 7 r_.fr,tI 5 n_] x)=>hK _ _ ?_⟩
 refine Rk 6 1 [tB 4 x10] q k fun ag s=>?_
 refine wf (wp_ret ?_)
 obtain rfl:=XZ H
 exact rt (.one (.c (.bool x10))) s k rfl
abbrev P7 (b:Cy):List SC:=[.int .i64 b.stop,.int .i64 b.tm.lo,.int .i64 b.tm.hi]
abbrev K9 (a:Option Addr) (r_:Af) (f:Nat) (d:Option Addr) (g:Nat) (e:Option Addr) (i:Nat):List SC:=[.slice a r_.legs.length f,.int .i64 r_.turn.lo,.int .i64 r_.turn.hi,.slice d r_.buses.length g,.slice e r_.spares.length i,.int .i64 r_.unit,.int .i64 r_.gap,.int .i64 r_.fr,.int .i64 r_.to_]
set_option maxRecDepth 100000 in
set_option maxHeartbeats 4000000 in
theorem FA (n:Nat) {h:Ae} {w:World} (hh:Dn h w) (r_:Af) {cs_r_:List Value} (hx_r_:rep h r_ cs_r_) (b:Cy) {cs_b:List Value} (hx_b:rep h b cs_b) (at_:Int) {r:Bool} (H:Cj n r_ b at_=some r) :
  Calls Try.prog 86 #[.agg cs_r_.toArray,.agg cs_b.toArray,.int .i64 at_] w (Dp (fun h v=>v=.bool r) h w):=by
 obtain⟨_,_,rfl,⟨a,f,rfl,ak⟩,⟨_,_,rfl,⟨_,_,rfl,rfl,rfl⟩,⟨_,_,rfl,⟨d,g,rfl,al⟩,⟨_,_,rfl,⟨e,i,rfl,am⟩,⟨_,_,rfl,rfl,⟨_,_,rfl,rfl,⟨_,_,rfl,rfl,rfl⟩⟩⟩⟩⟩⟩⟩:=hx_r_
 obtain⟨_,_,rfl,rfl,⟨_,_,rfl,rfl,rfl⟩⟩:=hx_b
 refine enter 18 [.agg (K9 a r_ f d g e i),.agg (P7 b),.c (.int .i64 at_)] Try.func86 rfl rfl rfl rfl fun t hk=>?_
 have hm:=Ah.begin h w hh
 unfold Cj at H
 refine XT (Aa (wl fun K hK=>?_))
 refine wb (.agg (K9 a r_ f d g e i)) hk hm fun j an ar (aa:Kn 18 [(j,0)] [tP 3 0 0,tA 0 (K9 a r_ f d g e i),tA 1 (P7 b),tI 2 at_] an) (aj:Ah ⟨w,h,Aj⟩ h [(j,0)] [⟨K9 a r_ f d g e i,some 43⟩] [] ar)=>hK _ _ ?_
 refine wl fun K hK=>?_
 refine wb (.agg (P7 b)) aa aj fun l ao au (ab:Kn 18 [(j,0),(l,0)] [tP 4 1 0,tP 3 0 0,tA 0 (K9 a r_ f d g e i),tA 1 (P7 b),tI 2 at_] ao) (k:Ah ⟨w,h,Aj⟩ h [(j,0),(l,0)] [⟨K9 a r_ f d g e i,some 43⟩,⟨P7 b,some 96⟩] [] au)=>hK _ _ ?_
 refine Rk 2 1 [tP 4 1 0,tP 3 0 0,tI 2 at_] ab k fun az ac=>?_
 refine wf (XT (An (by kernel_rfl) ?_))
 replace k:=k.drew
 refine Ao [] [(j,0),(l,0)] [⟨K9 a r_ f d g e i,some 43⟩,⟨P7 b,some 96⟩] ?_
 refine Dr [0,1,2] [2,1,0] [tB 9 (at_ == (-1)),tP 4 1 0,tP 3 0 0,tI 2 at_] ac k fun x q=>?_
 rcases Bool.eq_false_or_eq_true ((at_ == (-1))) with m | m
 ·
  rw [m,XW] at H
  have ad:Kn 18 [(j,0),(l,0)] [tB 9 true,tP 4 1 0,tP 3 0 0,tI 2 at_] x:=(q.setB 9 true (by rfl) m).kp
  refine Dr [3,4,5,6,7,8,9,10,11] (dn 11) [tB 6 true] ad k fun a0 ae=>?_
  refine Ay (by kernel_rfl) (wp_ret ?_)
  obtain rfl:=XZ H
  exact rt (.one (.c (.bool true))) ae k rfl
 ·
  rw [m,XV] at H
  have af:Kn 18 [(j,0),(l,0)] [tB 9 false,tP 4 1 0,tP 3 0 0,tI 2 at_] x:=(q.setB 9 false (by rfl) m).kp
  refine Dr [3,4,5,6] (dn 6) [tA 13 (K9 a r_ f d g e i),tI 12 b.stop,tI 10 at_,tB 9 false] af k fun a1 s=>?_
  obtain⟨x14,ex14,H⟩:=Aq H
  refine F0 7 rfl (by kernel_rfl) (by decide) (Ak s (by kernel_rfl)) fun K hK=>?_
  refine wc [.agg (K9 a r_ f d g e i)] s k (DF n k.has r_ ((Ab (Ad ak) (Ab (Ab Ac Ac) (Ab (Ad al) (Ab (Ad am) (Ab Ac (Ab Ac (Ab Ac Ac))))))):rep h r_ _) ex14) fun a4 av a6 y ax o=>?_
  obtain rfl:=y
  refine⟨.one (.c (.int .i64 x14)),rfl,fun ap (ag:Kn 18 [(j,0),(l,0)] [tI 14 x14,tA 13 (K9 a r_ f d g e i),tI 12 b.stop,tI 10 at_,tB 9 false] ap)=>hK _ _ o.plOk ?_⟩
  refine Dr [8] (dn 8) [tI 15 (IntKind.i64.wrap (x14-2)),tI 12 b.stop,tI 10 at_,tB 9 false] ag o fun a2 u=>?_
  obtain⟨x16,ex16,H⟩:=Aq H
  refine F0 9 rfl (by kernel_rfl) (by decide) (Ak u (by kernel_rfl)) fun K hK=>?_
  refine wc [.c (.int .i64 at_),.c (.int .i64 b.stop),.c (.int .i64 (IntKind.i64.wrap (x14-2)))] u o (C6 n o.has at_ b.stop (IntKind.i64.wrap (x14-2)) ex16) fun a5 aw a7 z ay p=>?_
  obtain rfl:=z
  refine⟨.one (.c (.bool x16)),rfl,fun aq (ah:Kn 18 [(j,0),(l,0)] [tB 16 x16,tI 15 (IntKind.i64.wrap (x14-2)),tI 12 b.stop,tI 10 at_,tB 9 false] aq)=>hK _ _ p.plOk ?_⟩
  refine Dr [10,11] (dn 11) [tB 6 x16] ah p fun a3 ai=>?_
  refine Ay (by kernel_rfl) (wp_ret ?_)
  obtain rfl:=XZ H
  exact rt (.one (.c (.bool x16))) ai p rfl
abbrev ED (x69:A7):List SC:=[.int .i64 x69.stop,.int .i64 x69.tm]
abbrev SE (x69:A7):List SC:=[.int .i64 x69.stop,.int .i64 x69.tm,.int .i64 (-1)]
abbrev CM (x17:Cy):List SC:=[.int .i64 x17.stop,.int .i64 x17.tm.lo,.int .i64 x17.tm.hi]
abbrev Cv (aa:Option Addr) (t_:Bd) (ac:Nat) (ab:Option Addr) (ad:Nat) (o:Option Addr) (p:Nat):List SC:=[.slice aa t_.tm.length ac,.slice ab t_.turns.length ad,.slice o t_.legs.length p]
abbrev SF (x17:Cy) (x25 x31:Int) (w_:B3) (x42:Int):List SC:=[.int .i64 x17.stop,.int .i64 (IntKind.i64.wrap (x25+(IntKind.i64.wrap (x31*w_.route.unit)))),.int .i64 x42]
abbrev P8 (g k av aw:Nat) (x_v22:Int) (az bc be:Nat):Ba:=[(g,0),(k,0),(av,aw+(x_v22:Int).toNat*2),(az,0),(bc,be+(x_v22:Int).toNat*1)]
abbrev Ow (g k ak al:Nat) (x_v12:Int) (am ap au ax ay a3 a5:Nat):Ba:=[(g,0),(k,0),(ak,al+(x_v12:Int).toNat*3),(am,0),(ap,au+(x_v12:Int).toNat*1),(ax,ay+(x_v12:Int).toNat*1),(a3,a5+(x_v12:Int).toNat*1)]
abbrev P9 (g k av aw:Nat) (x_v22:Int) (az bc be br bx:Nat) (w_:B3):Ba:=[(g,0),(k,0),(av,aw+(x_v22:Int).toNat*2),(az,0),(bc,be+(x_v22:Int).toNat*1),(br,bx+(IntKind.i64.wrap (((w_.route.buses.length:Nat):Int)+x_v22):Int).toNat*1)]
abbrev PA (g k ak al:Nat) (x_v12:Int) (am ap au ax ay a3 a5 bk bl bq bw:Nat):Ba:=[(g,0),(k,0),(ak,al+(x_v12:Int).toNat*3),(am,0),(ap,au+(x_v12:Int).toNat*1),(ax,ay+(x_v12:Int).toNat*1),(a3,a5+(x_v12:Int).toNat*1),(bk,bl+(x_v12:Int).toNat*1),(bq,bw+(x_v12:Int).toNat*1)]
abbrev BB (ae:Option Addr) (w_:B3) (ag:Nat) (b:Option Addr) (d:Nat) (e:Option Addr) (f:Nat) (q:Option Addr) (x:Nat) (s:Option Addr) (y:Nat) (u:Option Addr) (z:Nat):List SC:=[.slice ae w_.route.legs.length ag,.int .i64 w_.route.turn.lo,.int .i64 w_.route.turn.hi,.slice b w_.route.buses.length d,.slice e w_.route.spares.length f,.int .i64 w_.route.unit,.int .i64 w_.route.gap,.int .i64 w_.route.fr,.int .i64 w_.route.to_,.slice q w_.acts.holds.length x,.slice s w_.acts.turns.length y,.slice u w_.acts.spares.length z]
abbrev Gv (w_:B3) (e:Option Addr) (f:Nat) (af:Option Addr) (x_v21:List A5) (ah:Nat) (an:Option Addr) (x_v20:List Bi) (ao:Nat):TM:=[tI 65 ((w_.route.spares.length:Nat):Int),tS 64 e w_.route.spares.length f,tS 5 af x_v21.length ah,tS 4 an x_v20.length ao,tP 3 1 0,tP 2 0 0]
abbrev I4 (ai:Option Addr) (x_v10:List Bi) (aj:Nat) (x_v12:Int) (w_:B3) (b:Option Addr) (d:Nat) (l:Option Addr) (x_v11:List A5) (m:Nat):TM:=[tS 19 ai x_v10.length aj,tI 6 x_v12,tI 14 x_v12,tI 13 ((w_.route.buses.length:Nat):Int),tS 12 b w_.route.buses.length d,tS 5 l x_v11.length m,tP 3 1 0,tP 2 0 0]
abbrev JJ (x_v12:Int) (w_:B3) (b:Option Addr) (d:Nat) (l:Option Addr) (x_v11:List A5) (m:Nat) (ai:Option Addr) (x_v10:List Bi) (aj:Nat):TM:=[tI 14 x_v12,tI 13 ((w_.route.buses.length:Nat):Int),tS 12 b w_.route.buses.length d,tS 5 l x_v11.length m,tS 4 ai x_v10.length aj,tP 3 1 0,tP 2 0 0]
abbrev JK (x_v12:Int) (w_:B3) (b:Option Addr) (d:Nat):TM:=[tI 14 x_v12,tI 13 ((w_.route.buses.length:Nat):Int),tS 12 b w_.route.buses.length d,tP 3 1 0,tP 2 0 0]
abbrev Ox (af:Option Addr) (x_v21:List A5) (ah:Nat) (bb:Option Addr) (x84:List Bi) (bd:Nat) (x_v22:Int) (w_:B3) (e:Option Addr) (f:Nat):TM:=[tS 85 af x_v21.length ah,tS 4 bb x84.length bd,tI 66 x_v22,tI 65 ((w_.route.spares.length:Nat):Int),tS 64 e w_.route.spares.length f,tP 3 1 0,tP 2 0 0]
abbrev Qs (x_v22:Int) (w_:B3) (e:Option Addr) (f:Nat) (af:Option Addr) (x_v21:List A5) (ah:Nat):TM:=[tI 8 x_v22,tI 66 x_v22,tI 65 ((w_.route.spares.length:Nat):Int),tS 64 e w_.route.spares.length f,tS 5 af x_v21.length ah,tP 3 1 0,tP 2 0 0]
set_option maxRecDepth 100000 in
set_option maxHeartbeats 4000000 in
theorem Fh (n:Nat) {h:Ae} {w:World} (hh:Dn h w) (w_:B3) {cs_w_:List Value} (hx_w_:rep h w_ cs_w_) (t_:Bd) {cs_t_:List Value} (hx_t_:rep h t_ cs_t_) {r:(List Bi)×(List A5)} (H:BV n w_ t_=some r) :
  Calls Try.prog 93 #[.agg cs_w_.toArray,.agg cs_t_.toArray] w (Dp (fun h v=>∃ v0 v1,v=.tuple #[v0,v1]∧(∃ a c,v0=.slice a r.1.length c∧A6 h a c r.1)∧(∃ a c,v1=.slice a r.2.length c∧A6 h a c r.2)) h w):=by
 obtain⟨_,_,rfl,⟨_,_,rfl,⟨ae,ag,rfl,en⟩,⟨_,_,rfl,⟨_,_,rfl,rfl,rfl⟩,⟨_,_,rfl,⟨b,d,rfl,cl⟩,⟨_,_,rfl,⟨e,f,rfl,cm⟩,⟨_,_,rfl,rfl,⟨_,_,rfl,rfl,⟨_,_,rfl,rfl,rfl⟩⟩⟩⟩⟩⟩⟩,⟨_,_,rfl,⟨q,x,rfl,cg⟩,⟨_,_,rfl,⟨s,y,rfl,ch⟩,⟨u,z,rfl,ci⟩⟩⟩⟩:=hx_w_
 obtain⟨_,_,rfl,⟨aa,ac,rfl,cj⟩,⟨_,_,rfl,⟨ab,ad,rfl,ck⟩,⟨o,p,rfl,bv⟩⟩⟩:=hx_t_
 refine enter 102 [.agg (BB ae w_ ag b d e f q x s y u z),.agg (Cv aa t_ ac ab ad o p)] Try.func93 rfl rfl rfl rfl fun t hk=>?_
 have hm:=Ah.begin h w hh
 unfold BV at H
 refine XT (Aa (wl fun K hK=>?_))
 refine wb (.agg (BB ae w_ ag b d e f q x s y u z)) hk hm fun g jb jq (gn:Kn 102 [(g,0)] [tP 2 0 0,tA 0 (BB ae w_ ag b d e f q x s y u z),tA 1 (Cv aa t_ ac ab ad o p)] jb) (he:Ah ⟨w,h,Aj⟩ h [(g,0)] [⟨BB ae w_ ag b d e f q x s y u z,some 115⟩] [] jq)=>hK _ _ ?_
 refine wl fun K hK=>?_
 refine wb (.agg (Cv aa t_ ac ab ad o p)) gn he fun k jf dz (gw:Kn 102 [(g,0),(k,0)] [tP 3 1 0,tP 2 0 0,tA 0 (BB ae w_ ag b d e f q x s y u z),tA 1 (Cv aa t_ ac ab ad o p)] jf) (dj:Ah ⟨w,h,Aj⟩ h [(g,0),(k,0)] [⟨BB ae w_ ag b d e f q x s y u z,some 115⟩,⟨Cv aa t_ ac ab ad o p,some 76⟩] [] dz)=>hK _ _ ?_
 refine Rk 2 2 [tS 5 none 0 0,tS 4 none 0 0,tP 3 1 0,tP 2 0 0] gw dj fun kv g3=>?_
 refine wf (XT (XT (Aa (Rk 0 5 [tI 14 0,tI 13 ((w_.route.buses.length:Nat):Int),tS 12 b w_.route.buses.length d,tS 5 none 0 0,tS 4 none 0 0,tP 3 1 0,tP 2 0 0] g3 dj fun kw g4=>?_))))
 refine wf ?_
 have hf:Ah ⟨w,h,Aj⟩ h [(g,0),(k,0)] [⟨BB ae w_ ag b d e f q x s y u z,some 115⟩,⟨Cv aa t_ ac ab ad o p,some 76⟩] [⟨none,0,0,153,3,[],0⟩] dz:=dj.nilRow 153 3
 have fd:Ag h ([]:List Bi) []:=Ag.nil
 have hg:Ah ⟨w,h,Aj⟩ h [(g,0),(k,0)] [⟨BB ae w_ ag b d e f q x s y u z,some 115⟩,⟨Cv aa t_ ac ab ad o p,some 76⟩] [⟨none,0,0,153,3,[],0⟩,⟨none,0,0,158,2,[],0⟩] dz:=hf.nilRow 158 2
 have fe:Ag h ([]:List A5) []:=Ag.nil
 obtain⟨bj,d1,H⟩:=Aq H
 refine Av (fun a' w'=>∃ (b7:Option Addr)(cb:Nat)(cv:List Value)(b8:Option Addr)(cc:Nat)(cw:List Value)(dw:Array Value)(b0:Ae),a' = ⟨dw,[]⟩∧Kn 102 [(g,0),(k,0)] [tS 5 b8 bj.2.length cc,tS 4 b7 bj.1.length cb,tP 3 1 0,tP 2 0 0] dw∧Ah ⟨w,h,Aj⟩ b0 [(g,0),(k,0)] [⟨BB ae w_ ag b d e f q x s y u z,some 115⟩,⟨Cv aa t_ ac ab ad o p,some 76⟩] [⟨b7,bj.1.length,cb,153,3,cv,0⟩,⟨b8,bj.2.length,cc,158,2,cw,0⟩] w'∧Ae.le h b0∧Ag b0 bj.1 cv∧Ag b0 bj.2 cw) ?_ ?_
 ·
  refine wp_block ?_
  refine Ar (fun ix a' w'=>∃ (x_v10:List Bi)(x_v11:List A5)(x_v12:Int)(ai:Option Addr)(aj:Nat)(a6:List Value)(l:Option Addr)(m:Nat)(a7:List Value)(dx:Array Value)(aq:Ae),a' = ⟨dx,[]⟩∧Kn 102 [(g,0),(k,0)] (JJ x_v12 w_ b d l x_v11 m ai x_v10 aj) dx∧Ah ⟨w,h,Aj⟩ aq [(g,0),(k,0)] [⟨BB ae w_ ag b d e f q x s y u z,some 115⟩,⟨Cv aa t_ ac ab ad o p,some 76⟩] [⟨ai,x_v10.length,aj,153,3,a6,0⟩,⟨l,x_v11.length,m,158,2,a7,0⟩] w'∧Ae.le h aq∧Ag aq x_v10 a6∧Ag aq x_v11 a7∧Bk ix w_ t_ x_v10 x_v11 x_v12=some bj) n ?_ ?_
  ·
   exact XY ([]:List Bi) ⟨([]:List A5),0,none,0,[],none,0,[],_,_,rfl,g4.kp,hg,Ae.le_refl _,fd,fe,d1⟩
  ·
   rintro dt _ ju ⟨x_v10,x_v11,x_v12,ai,aj,a6,l,m,a7,dx,aq,rfl,g5,ct,bu,d8,d9,ar⟩
   clear d1
   obtain _ | dt:=dt
   ·
    rw [Bk] at ar; cases ar
   rw [Bk] at ar
   replace cl:=cl.mono bu
   replace cg:=cg.mono bu
   replace ch:=ch.mono bu
   replace cj:=cj.mono bu
   replace ck:=ck.mono bu
   replace bv:=bv.mono bu
   refine XT (Aa (Rk 0 1 ((tB 15 (decide (x_v12<((w_.route.buses.length:Nat):Int))))::(JJ x_v12 w_ b d l x_v11 m ai x_v10 aj)) g5 ct fun kx db=>?_))
   refine wf (XT (wC (decide (x_v12<((w_.route.buses.length:Nat):Int))) db (fun c0=>?_) (fun c0=>?_)))
   ·
    rw [c0,XW] at ar
    refine wp_skip (XT (wp_block (XT (Aa (Rk 0 1 ((tI 16 x_v12)::(JJ x_v12 w_ b d l x_v11 m ai x_v10 aj)) db ct fun ky g6=>?_)))))
    obtain⟨x17,ex17,ar⟩:=Aq ar
    obtain⟨hu,h3,iv⟩:=Ai ex17
    obtain⟨ak,al,j4,e0,ij,fh⟩:=cl.get (by decide) iv
    obtain⟨_,_,rfl,rfl,⟨_,_,rfl,rfl,rfl⟩⟩:=ij
    have el:Ah ⟨w,h,Aj⟩ aq [(g,0),(k,0),(ak,al+(x_v12:Int).toNat*3)] [⟨BB ae w_ ag b d e f q x s y u z,some 115⟩,⟨Cv aa t_ ac ab ad o p,some 76⟩,⟨CM x17,none⟩] [⟨ai,x_v10.length,aj,153,3,a6,0⟩,⟨l,x_v11.length,m,158,2,a7,0⟩] ju:=ct.addPlc (cs:=(CM x17)) (fun j c hj=>fh j _ (Al hj)) rfl (by kernel_rfl) (by kernel_rfl)
    refine Bc 1 (x_v12) rfl rfl (rfl) rfl (by decide) g6 (by rfl) (by rfl) (by rfl) e0 (by rfl) hu h3 (by kernel_rfl) fun jj (g7:Kn 102 [(g,0),(k,0),(ak,al+(x_v12:Int).toNat*3)] ((tP 17 2 0)::(tI 16 x_v12)::(JJ x_v12 w_ b d l x_v11 m ai x_v10 aj)) jj)=>?_
    refine Rk 2 1 ((tA 18 (CM x17))::(tI 16 x_v12)::(JJ x_v12 w_ b d l x_v11 m ai x_v10 aj)) g7 el fun kz g8=>?_
    refine wl fun K hK=>?_
    refine wa [.int .i64 0,.int .i64 0,.int .i64 0] g8 el fun am jk jv (g9:Kn 102 [(g,0),(k,0),(ak,al+(x_v12:Int).toNat*3),(am,0)] ((tP 7 3 0)::(tA 18 (CM x17))::(tI 16 x_v12)::(JJ x_v12 w_ b d l x_v11 m ai x_v10 aj)) jk) (em:Ah ⟨w,h,Aj⟩ aq [(g,0),(k,0),(ak,al+(x_v12:Int).toNat*3),(am,0)] [⟨BB ae w_ ag b d e f q x s y u z,some 115⟩,⟨Cv aa t_ ac ab ad o p,some 76⟩,⟨CM x17,none⟩,⟨[.int .i64 0,.int .i64 0,.int .i64 0],some 96⟩] [⟨ai,x_v10.length,aj,153,3,a6,0⟩,⟨l,x_v11.length,m,158,2,a7,0⟩] jv)=>hK _ _ ?_
    refine Rk 4 1 ((tI 6 x_v12)::(tP 7 3 0)::(tA 18 (CM x17))::(JJ x_v12 w_ b d l x_v11 m ai x_v10 aj)) g9 em fun iy fm=>?_
    refine wl fun K hK=>?_
    refine G2 3 0 (.agg (CM x17)) (CM x17) fm em fun cx fn (ce:Ah ⟨w,h,Aj⟩ aq [(g,0),(k,0),(ak,al+(x_v12:Int).toNat*3),(am,0)] [⟨BB ae w_ ag b d e f q x s y u z,some 115⟩,⟨Cv aa t_ ac ab ad o p,some 76⟩,⟨CM x17,none⟩,⟨CM x17,some 96⟩] [⟨ai,x_v10.length,aj,153,3,a6,0⟩,⟨l,x_v11.length,m,158,2,a7,0⟩] cx)=>hK _ _ ?_
    have fo:Kn 102 [(g,0),(k,0),(ak,al+(x_v12:Int).toNat*3),(am,0)] ((tI 6 x_v12)::(tP 7 3 0)::(JJ x_v12 w_ b d l x_v11 m ai x_v10 aj)) iy:=fn.kp
    refine wf (XT (An (by kernel_rfl) ?_))
    replace ce:=ce.drew
    refine Ao [] [(g,0),(k,0),(ak,al+(x_v12:Int).toNat*3),(am,0)] [⟨BB ae w_ ag b d e f q x s y u z,some 115⟩,⟨Cv aa t_ ac ab ad o p,some 76⟩,⟨CM x17,none⟩,⟨CM x17,some 96⟩] ?_
    refine Dr [0,1,2,3,4,5] (dn 5) ((tI 24 x_v12)::(tS 23 aa t_.tm.length ac)::(tI 21 x17.stop)::(I4 ai x_v10 aj x_v12 w_ b d l x_v11 m)) fo ce fun j6 fp=>?_
    obtain⟨x25,ex25,ar⟩:=Aq ar
    obtain⟨hl,hv,ik⟩:=Ai ex25
    obtain⟨ap,au,jw,es,h9,e1⟩:=cj.get (by decide) ik
    obtain rfl:=h9
    have dc:Ah ⟨w,h,Aj⟩ aq [(g,0),(k,0),(ak,al+(x_v12:Int).toNat*3),(am,0),(ap,au+(x_v12:Int).toNat*1)] [⟨BB ae w_ ag b d e f q x s y u z,some 115⟩,⟨Cv aa t_ ac ab ad o p,some 76⟩,⟨CM x17,none⟩,⟨CM x17,some 96⟩,⟨[.int .i64 x25],none⟩] [⟨ai,x_v10.length,aj,153,3,a6,0⟩,⟨l,x_v11.length,m,158,2,a7,0⟩] (World.drew cx):=ce.addPlc (cs:=[.int .i64 x25]) (fun j c hj=>e1 j _ (Al hj)) rfl (by kernel_rfl) (by kernel_rfl)
    refine Ax 6 (x_v12) [.int .i64 x25] (fun _ _ _ _ _ h=>h) rfl rfl (rfl) rfl (by decide) (by kernel_rfl) (by kernel_rfl) fp ce.plOk (by rfl) (by rfl) (by rfl) es (by rfl) hl hv (by kernel_rfl) fun iz (fq:Kn 102 [(g,0),(k,0),(ak,al+(x_v12:Int).toNat*3),(am,0),(ap,au+(x_v12:Int).toNat*1)] ((tP 25 4 0)::(tI 24 x_v12)::(tS 23 aa t_.tm.length ac)::(tI 21 x17.stop)::(I4 ai x_v10 aj x_v12 w_ b d l x_v11 m)) iz)=>?_
    refine Dr [7,8,9,10,11] (dn 11) ((tI 30 x_v12)::(tS 29 q w_.acts.holds.length x)::(tI 26 x25)::(tI 21 x17.stop)::(I4 ai x_v10 aj x_v12 w_ b d l x_v11 m)) fq dc fun j7 fs=>?_
    obtain⟨x31,ex31,ar⟩:=Aq ar
    obtain⟨hn,hw,il⟩:=Ai ex31
    obtain⟨ax,ay,jx,et,ia,e2⟩:=cg.get (by decide) il
    obtain rfl:=ia
    have dd:Ah ⟨w,h,Aj⟩ aq [(g,0),(k,0),(ak,al+(x_v12:Int).toNat*3),(am,0),(ap,au+(x_v12:Int).toNat*1),(ax,ay+(x_v12:Int).toNat*1)] [⟨BB ae w_ ag b d e f q x s y u z,some 115⟩,⟨Cv aa t_ ac ab ad o p,some 76⟩,⟨CM x17,none⟩,⟨CM x17,some 96⟩,⟨[.int .i64 x25],none⟩,⟨[.int .i64 x31],none⟩] [⟨ai,x_v10.length,aj,153,3,a6,0⟩,⟨l,x_v11.length,m,158,2,a7,0⟩] (World.drew cx):=dc.addPlc (cs:=[.int .i64 x31]) (fun j c hj=>e2 j _ (Al hj)) rfl (by kernel_rfl) (by kernel_rfl)
    refine Ax 12 (x_v12) [.int .i64 x31] (fun _ _ _ _ _ h=>h) rfl rfl (rfl) rfl (by decide) (by kernel_rfl) (by kernel_rfl) fs dc.plOk (by rfl) (by rfl) (by rfl) et (by rfl) hn hw (by kernel_rfl) fun i0 (ft:Kn 102 [(g,0),(k,0),(ak,al+(x_v12:Int).toNat*3),(am,0),(ap,au+(x_v12:Int).toNat*1),(ax,ay+(x_v12:Int).toNat*1)] ((tP 31 5 0)::(tI 30 x_v12)::(tS 29 q w_.acts.holds.length x)::(tI 26 x25)::(tI 21 x17.stop)::(I4 ai x_v10 aj x_v12 w_ b d l x_v11 m)) i0)=>?_
    refine Dr [13,14,15,16,17,18,19,20,21,22] (dn 22) ((tI 41 x_v12)::(tS 40 s w_.acts.turns.length y)::(tI 37 (IntKind.i64.wrap (x25+(IntKind.i64.wrap (x31*w_.route.unit)))))::(tI 21 x17.stop)::(I4 ai x_v10 aj x_v12 w_ b d l x_v11 m)) ft dd fun j8 fu=>?_
    obtain⟨x42,ex42,ar⟩:=Aq ar
    obtain⟨ho,hx,im⟩:=Ai ex42
    obtain⟨a3,a5,jy,eu,ib,e3⟩:=ch.get (by decide) im
    obtain rfl:=ib
    have ec:Ah ⟨w,h,Aj⟩ aq (Ow g k ak al x_v12 am ap au ax ay a3 a5) [⟨BB ae w_ ag b d e f q x s y u z,some 115⟩,⟨Cv aa t_ ac ab ad o p,some 76⟩,⟨CM x17,none⟩,⟨CM x17,some 96⟩,⟨[.int .i64 x25],none⟩,⟨[.int .i64 x31],none⟩,⟨[.int .i64 x42],none⟩] [⟨ai,x_v10.length,aj,153,3,a6,0⟩,⟨l,x_v11.length,m,158,2,a7,0⟩] (World.drew cx):=dd.addPlc (cs:=[.int .i64 x42]) (fun j c hj=>e3 j _ (Al hj)) rfl (by kernel_rfl) (by kernel_rfl)
    refine Ax 23 (x_v12) [.int .i64 x42] (fun _ _ _ _ _ h=>h) rfl rfl (rfl) rfl (by decide) (by kernel_rfl) (by kernel_rfl) fu dd.plOk (by rfl) (by rfl) (by rfl) eu (by rfl) ho hx (by kernel_rfl) fun i1 (fv:Kn 102 (Ow g k ak al x_v12 am ap au ax ay a3 a5) ((tP 42 6 0)::(tI 41 x_v12)::(tS 40 s w_.acts.turns.length y)::(tI 37 (IntKind.i64.wrap (x25+(IntKind.i64.wrap (x31*w_.route.unit)))))::(tI 21 x17.stop)::(I4 ai x_v10 aj x_v12 w_ b d l x_v11 m)) i1)=>?_
    refine Dr [24,25] (dn 25) ((tA 44 (SF x17 x25 x31 w_ x42))::(I4 ai x_v10 aj x_v12 w_ b d l x_v11 m)) fv ec fun j9 fw=>?_
    refine Dl 26 fun K hK=>?_
    refine wS 153 3 (SF x17 x25 x31 w_ x42) fw ec fun bn i2 jl (fx:Kn 102 (Ow g k ak al x_v12 am ap au ax ay a3 a5) ((tS 45 bn 1 1)::(tA 44 (SF x17 x25 x31 w_ x42))::(I4 ai x_v10 aj x_v12 w_ b d l x_v11 m)) i2) (de:Ah ⟨w,h,Aj⟩ aq (Ow g k ak al x_v12 am ap au ax ay a3 a5) [⟨BB ae w_ ag b d e f q x s y u z,some 115⟩,⟨Cv aa t_ ac ab ad o p,some 76⟩,⟨CM x17,none⟩,⟨CM x17,some 96⟩,⟨[.int .i64 x25],none⟩,⟨[.int .i64 x31],none⟩,⟨[.int .i64 x42],none⟩] [⟨ai,x_v10.length,aj,153,3,a6,0⟩,⟨l,x_v11.length,m,158,2,a7,0⟩,⟨bn,1,1,153,3,([.int .i64 x17.stop,.int .i64 (IntKind.i64.wrap (x25+(IntKind.i64.wrap (x31*w_.route.unit)))),.int .i64 x42]:List Value),0⟩] jl)=>?_
    have c1:Ag aq ([Bi.mk x17.stop (IntKind.i64.wrap (x25+(IntKind.i64.wrap (x31*w_.route.unit)))) x42]:List Bi) ([.int .i64 x17.stop,.int .i64 (IntKind.i64.wrap (x25+(IntKind.i64.wrap (x31*w_.route.unit)))),.int .i64 x42]:List Value):=⟨_,_,rfl,((Ab Ac (Ab Ac Ac)):rep aq ((Bi.mk x17.stop (IntKind.i64.wrap (x25+(IntKind.i64.wrap (x31*w_.route.unit)))) x42):Bi) _),rfl⟩
    refine hK _ _ de.plOk ?_
    obtain⟨x46,ex46,ar⟩:=Aq ar
    obtain⟨dp,ha⟩:=A8 ex46
    refine Dl 27 fun K hK=>?_
    refine A3 0 24 1 _ (x46.length) _ ([.int .i64 x17.stop,.int .i64 (IntKind.i64.wrap (x25+(IntKind.i64.wrap (x31*w_.route.unit)))),.int .i64 x42]:List Value) fx de rfl rfl (by decide) rfl (by rfl) (by kernel_rfl) (by rfl) (by rfl) (Ag.len c1) (de.rowCell (i:=2) rfl) c1.one (by rw [dp]; simp) (by rw [dp]; exact ha) (by decide) fun a8 a9 d2 i3 dy fi (fy:Kn 102 (Ow g k ak al x_v12 am ap au ax ay a3 a5) ((tS 46 a8 x46.length a9)::(tS 45 bn 1 1)::(tA 44 (SF x17 x25 x31 w_ x42))::(I4 ai x_v10 aj x_v12 w_ b d l x_v11 m)) i3) (b1:Ah ⟨w,h,Aj⟩ aq (Ow g k ak al x_v12 am ap au ax ay a3 a5) [⟨BB ae w_ ag b d e f q x s y u z,some 115⟩,⟨Cv aa t_ ac ab ad o p,some 76⟩,⟨CM x17,none⟩,⟨CM x17,some 96⟩,⟨[.int .i64 x25],none⟩,⟨[.int .i64 x31],none⟩,⟨[.int .i64 x42],none⟩] [⟨a8,x46.length,a9,153,3,a6++([.int .i64 x17.stop,.int .i64 (IntKind.i64.wrap (x25+(IntKind.i64.wrap (x31*w_.route.unit)))),.int .i64 x42]:List Value),d2⟩,⟨l,x_v11.length,m,158,2,a7,0⟩,⟨bn,1,1,153,3,([.int .i64 x17.stop,.int .i64 (IntKind.i64.wrap (x25+(IntKind.i64.wrap (x31*w_.route.unit)))),.int .i64 x42]:List Value),0⟩] dy)=>?_
    have e4:Ag aq x46 (a6++([.int .i64 x17.stop,.int .i64 (IntKind.i64.wrap (x25+(IntKind.i64.wrap (x31*w_.route.unit)))),.int .i64 x42]:List Value)):=by rw [dp]; exact Ag.append d8 c1
    obtain rfl:d2=0:=Nat.le_zero.1 fi
    refine hK _ _ b1.plOk ?_
    refine Dr [28] (dn 28) [tS 4 a8 x46.length a9,tI 6 x_v12,tI 14 x_v12,tI 13 ((w_.route.buses.length:Nat):Int),tS 12 b w_.route.buses.length d,tS 5 l x_v11.length m,tP 3 1 0,tP 2 0 0] fy b1 fun ka fz=>?_
    refine Ay (by kernel_rfl) (An (by kernel_rfl) ?_)
    replace b1:=b1.drew
    refine Ao [] (Ow g k ak al x_v12 am ap au ax ay a3 a5) [⟨BB ae w_ ag b d e f q x s y u z,some 115⟩,⟨Cv aa t_ ac ab ad o p,some 76⟩,⟨CM x17,none⟩,⟨CM x17,some 96⟩,⟨[.int .i64 x25],none⟩,⟨[.int .i64 x31],none⟩,⟨[.int .i64 x42],none⟩] ?_
    refine Dr [0,1,2,3] (dn 3) ((tI 50 x_v12)::(tS 49 o t_.legs.length p)::(tS 47 l x_v11.length m)::(tS 4 a8 x46.length a9)::(tI 6 x_v12)::(JK x_v12 w_ b d)) fz b1 fun kb f0=>?_
    obtain⟨x51,ex51,ar⟩:=Aq ar
    obtain⟨hp,hy,io⟩:=Ai ex51
    obtain⟨bk,bl,jz,ev,ic,e5⟩:=bv.get (by decide) io
    obtain⟨a2,a4,rfl,h4⟩:=ic
    have df:Ah ⟨w,h,Aj⟩ aq [(g,0),(k,0),(ak,al+(x_v12:Int).toNat*3),(am,0),(ap,au+(x_v12:Int).toNat*1),(ax,ay+(x_v12:Int).toNat*1),(a3,a5+(x_v12:Int).toNat*1),(bk,bl+(x_v12:Int).toNat*1)] [⟨BB ae w_ ag b d e f q x s y u z,some 115⟩,⟨Cv aa t_ ac ab ad o p,some 76⟩,⟨CM x17,none⟩,⟨CM x17,some 96⟩,⟨[.int .i64 x25],none⟩,⟨[.int .i64 x31],none⟩,⟨[.int .i64 x42],none⟩,⟨[.slice a2 x51.length a4],none⟩] [⟨a8,x46.length,a9,153,3,a6++([.int .i64 x17.stop,.int .i64 (IntKind.i64.wrap (x25+(IntKind.i64.wrap (x31*w_.route.unit)))),.int .i64 x42]:List Value),0⟩,⟨l,x_v11.length,m,158,2,a7,0⟩,⟨bn,1,1,153,3,([.int .i64 x17.stop,.int .i64 (IntKind.i64.wrap (x25+(IntKind.i64.wrap (x31*w_.route.unit)))),.int .i64 x42]:List Value),0⟩] (World.drew dy):=b1.addPlc (cs:=[.slice a2 x51.length a4]) (fun j c hj=>e5 j _ (Al hj)) rfl (by kernel_rfl) (by kernel_rfl)
    refine Ax 4 (x_v12) [.slice a2 x51.length a4] (fun _ _ _ _ _ h=>h) rfl rfl (rfl) rfl (by decide) (by kernel_rfl) (by kernel_rfl) f0 b1.plOk (by rfl) (by rfl) (by rfl) ev (by rfl) hp hy (by kernel_rfl) fun i4 (f1:Kn 102 [(g,0),(k,0),(ak,al+(x_v12:Int).toNat*3),(am,0),(ap,au+(x_v12:Int).toNat*1),(ax,ay+(x_v12:Int).toNat*1),(a3,a5+(x_v12:Int).toNat*1),(bk,bl+(x_v12:Int).toNat*1)] ((tP 51 7 0)::(tI 50 x_v12)::(tS 49 o t_.legs.length p)::(tS 47 l x_v11.length m)::(tS 4 a8 x46.length a9)::(tI 6 x_v12)::(JK x_v12 w_ b d)) i4)=>?_
    refine Dr [5,6,7,8] (dn 8) ((tI 55 x_v12)::(tS 54 ab t_.turns.length ad)::(tS 52 a2 x51.length a4)::(tS 47 l x_v11.length m)::(tS 4 a8 x46.length a9)::(JK x_v12 w_ b d)) f1 df fun kc f2=>?_
    obtain⟨x56,ex56,ar⟩:=Aq ar
    obtain⟨hq,hz,ip⟩:=Ai ex56
    obtain⟨bq,bw,j0,ew,ie,e6⟩:=ck.get (by decide) ip
    obtain rfl:=ie
    have ed:Ah ⟨w,h,Aj⟩ aq (PA g k ak al x_v12 am ap au ax ay a3 a5 bk bl bq bw) [⟨BB ae w_ ag b d e f q x s y u z,some 115⟩,⟨Cv aa t_ ac ab ad o p,some 76⟩,⟨CM x17,none⟩,⟨CM x17,some 96⟩,⟨[.int .i64 x25],none⟩,⟨[.int .i64 x31],none⟩,⟨[.int .i64 x42],none⟩,⟨[.slice a2 x51.length a4],none⟩,⟨[.int .i64 x56],none⟩] [⟨a8,x46.length,a9,153,3,a6++([.int .i64 x17.stop,.int .i64 (IntKind.i64.wrap (x25+(IntKind.i64.wrap (x31*w_.route.unit)))),.int .i64 x42]:List Value),0⟩,⟨l,x_v11.length,m,158,2,a7,0⟩,⟨bn,1,1,153,3,([.int .i64 x17.stop,.int .i64 (IntKind.i64.wrap (x25+(IntKind.i64.wrap (x31*w_.route.unit)))),.int .i64 x42]:List Value),0⟩] (World.drew dy):=df.addPlc (cs:=[.int .i64 x56]) (fun j c hj=>e6 j _ (Al hj)) rfl (by kernel_rfl) (by kernel_rfl)
    refine Ax 9 (x_v12) [.int .i64 x56] (fun _ _ _ _ _ h=>h) rfl rfl (rfl) rfl (by decide) (by kernel_rfl) (by kernel_rfl) f2 df.plOk (by rfl) (by rfl) (by rfl) ew (by rfl) hq hz (by kernel_rfl) fun i5 (f3:Kn 102 (PA g k ak al x_v12 am ap au ax ay a3 a5 bk bl bq bw) ((tP 56 8 0)::(tI 55 x_v12)::(tS 54 ab t_.turns.length ad)::(tS 52 a2 x51.length a4)::(tS 47 l x_v11.length m)::(tS 4 a8 x46.length a9)::(JK x_v12 w_ b d)) i5)=>?_
    refine Dr [10,11] (dn 11) ((tA 58 [.slice a2 x51.length a4,.int .i64 x56])::(tS 47 l x_v11.length m)::(tS 4 a8 x46.length a9)::(JK x_v12 w_ b d)) f3 ed fun kd f4=>?_
    refine Dl 12 fun K hK=>?_
    refine wS 158 2 [.slice a2 x51.length a4,.int .i64 x56] f4 ed fun cn i6 jm (f5:Kn 102 (PA g k ak al x_v12 am ap au ax ay a3 a5 bk bl bq bw) ((tS 59 cn 1 1)::(tA 58 [.slice a2 x51.length a4,.int .i64 x56])::(tS 47 l x_v11.length m)::(tS 4 a8 x46.length a9)::(JK x_v12 w_ b d)) i6) (dg:Ah ⟨w,h,Aj⟩ aq (PA g k ak al x_v12 am ap au ax ay a3 a5 bk bl bq bw) [⟨BB ae w_ ag b d e f q x s y u z,some 115⟩,⟨Cv aa t_ ac ab ad o p,some 76⟩,⟨CM x17,none⟩,⟨CM x17,some 96⟩,⟨[.int .i64 x25],none⟩,⟨[.int .i64 x31],none⟩,⟨[.int .i64 x42],none⟩,⟨[.slice a2 x51.length a4],none⟩,⟨[.int .i64 x56],none⟩] [⟨a8,x46.length,a9,153,3,a6++([.int .i64 x17.stop,.int .i64 (IntKind.i64.wrap (x25+(IntKind.i64.wrap (x31*w_.route.unit)))),.int .i64 x42]:List Value),0⟩,⟨l,x_v11.length,m,158,2,a7,0⟩,⟨bn,1,1,153,3,([.int .i64 x17.stop,.int .i64 (IntKind.i64.wrap (x25+(IntKind.i64.wrap (x31*w_.route.unit)))),.int .i64 x42]:List Value),0⟩,⟨cn,1,1,158,2,([.slice a2 x51.length a4,.int .i64 x56]:List Value),0⟩] jm)=>?_
    have c2:Ag aq ([A5.mk x51 x56]:List A5) ([.slice a2 x51.length a4,.int .i64 x56]:List Value):=⟨_,_,rfl,((Ab (Ad h4) Ac):rep aq ((A5.mk x51 x56):A5) _),rfl⟩
    refine hK _ _ dg.plOk ?_
    obtain⟨x60,ex60,ar⟩:=Aq ar
    obtain⟨dq,hb⟩:=A8 ex60
    refine Dl 13 fun K hK=>?_
    refine A3 1 32 1 _ (x60.length) _ ([.slice a2 x51.length a4,.int .i64 x56]:List Value) f5 dg rfl rfl (by decide) rfl (by rfl) (by kernel_rfl) (by rfl) (by rfl) (Ag.len c2) (dg.rowCell (i:=3) rfl) c2.one (by rw [dq]; simp) (by rw [dq]; exact hb) (by decide) fun b5 b9 d3 i7 jn fj (f6:Kn 102 (PA g k ak al x_v12 am ap au ax ay a3 a5 bk bl bq bw) ((tS 60 b5 x60.length b9)::(tS 59 cn 1 1)::(tA 58 [.slice a2 x51.length a4,.int .i64 x56])::(tS 47 l x_v11.length m)::(tS 4 a8 x46.length a9)::(JK x_v12 w_ b d)) i7) (cp:Ah ⟨w,h,Aj⟩ aq (PA g k ak al x_v12 am ap au ax ay a3 a5 bk bl bq bw) [⟨BB ae w_ ag b d e f q x s y u z,some 115⟩,⟨Cv aa t_ ac ab ad o p,some 76⟩,⟨CM x17,none⟩,⟨CM x17,some 96⟩,⟨[.int .i64 x25],none⟩,⟨[.int .i64 x31],none⟩,⟨[.int .i64 x42],none⟩,⟨[.slice a2 x51.length a4],none⟩,⟨[.int .i64 x56],none⟩] [⟨a8,x46.length,a9,153,3,a6++([.int .i64 x17.stop,.int .i64 (IntKind.i64.wrap (x25+(IntKind.i64.wrap (x31*w_.route.unit)))),.int .i64 x42]:List Value),0⟩,⟨b5,x60.length,b9,158,2,a7++([.slice a2 x51.length a4,.int .i64 x56]:List Value),d3⟩,⟨bn,1,1,153,3,([.int .i64 x17.stop,.int .i64 (IntKind.i64.wrap (x25+(IntKind.i64.wrap (x31*w_.route.unit)))),.int .i64 x42]:List Value),0⟩,⟨cn,1,1,158,2,([.slice a2 x51.length a4,.int .i64 x56]:List Value),0⟩] jn)=>?_
    have e7:Ag aq x60 (a7++([.slice a2 x51.length a4,.int .i64 x56]:List Value)):=by rw [dq]; exact Ag.append d9 c2
    obtain rfl:d3=0:=Nat.le_zero.1 fj
    refine hK _ _ cp.plOk ?_
    refine Dr [14] (dn 14) ((tS 5 b5 x60.length b9)::(tS 4 a8 x46.length a9)::(JK x_v12 w_ b d)) f6 cp fun ke f7=>?_
    refine Ay (by kernel_rfl) (Aa (Rk 0 2 [tI 14 (IntKind.i64.wrap (x_v12+1)),tS 5 b5 x60.length b9,tS 4 a8 x46.length a9,tI 13 ((w_.route.buses.length:Nat):Int),tS 12 b w_.route.buses.length d,tP 3 1 0,tP 2 0 0] f7 cp fun kf f8=>?_))
    refine wf ?_
    exact XY dt ⟨Nat.lt_succ_self _,XY x46 ⟨x60,IntKind.i64.wrap (x_v12+1),a8,a9,a6++([.int .i64 x17.stop,.int .i64 (IntKind.i64.wrap (x25+(IntKind.i64.wrap (x31*w_.route.unit)))),.int .i64 x42]:List Value),b5,b9,a7++([.slice a2 x51.length a4,.int .i64 x56]:List Value),_,_,rfl,(f8.keep [14,13,12,5,4,3,2] (by rfl)).cut 2 (by kernel_rfl),(cp.cutRw 2).cutPl 2 (by kernel_rfl),bu,e4,e7,ar⟩⟩
   ·
    rw [c0,XV] at ar
    refine wp_exit ?_
    obtain rfl:=XZ ar
    exact XY ai ⟨aj,a6,l,m,a7,_,_,rfl,db.kp,ct,bu,d8,d9⟩
 ·
  rintro _ k0 ⟨b7,cb,cv,b8,cc,cw,dw,b0,rfl,f9,ee,bm,ff,fg⟩
  replace en:=en.mono bm
  replace cl:=cl.mono bm
  replace cm:=cm.mono bm
  replace cg:=cg.mono bm
  replace ch:=ch.mono bm
  replace ci:=ci.mono bm
  replace cj:=cj.mono bm
  replace ck:=ck.mono bm
  replace bv:=bv.mono bm
  refine XT (XT (Aa (Rk 0 5 [tI 66 0,tI 65 ((w_.route.spares.length:Nat):Int),tS 64 e w_.route.spares.length f,tS 5 b8 bj.2.length cc,tS 4 b7 bj.1.length cb,tP 3 1 0,tP 2 0 0] f9 ee fun kg ga=>?_)))
  refine wf ?_
  obtain⟨ba,d0,H⟩:=Aq H
  refine Av (fun a' w'=>∃ (bo:Option Addr)(bs:Nat)(b2:List Value)(bp:Option Addr)(bt:Nat)(b4:List Value)(du:Array Value)(cd:Ae),a' = ⟨du,[]⟩∧Kn 102 [(g,0),(k,0)] [tS 5 bp ba.2.length bt,tS 4 bo ba.1.length bs] du∧Ah ⟨w,h,Aj⟩ cd [(g,0),(k,0)] [⟨BB ae w_ ag b d e f q x s y u z,some 115⟩,⟨Cv aa t_ ac ab ad o p,some 76⟩] [⟨bo,ba.1.length,bs,153,3,b2,0⟩,⟨bp,ba.2.length,bt,158,2,b4,0⟩] w'∧Ae.le b0 cd∧Ag cd ba.1 b2∧Ag cd ba.2 b4) ?_ ?_
  ·
   refine wp_block ?_
   refine Ar (fun iw a' w'=>∃ (x_v20:List Bi)(x_v21:List A5)(x_v22:Int)(an:Option Addr)(ao:Nat)(bf:List Value)(af:Option Addr)(ah:Nat)(bg:List Value)(dv:Array Value)(a0:Ae),a' = ⟨dv,[]⟩∧Kn 102 [(g,0),(k,0)] ((tI 66 x_v22)::(Gv w_ e f af x_v21 ah an x_v20 ao)) dv∧Ah ⟨w,h,Aj⟩ a0 [(g,0),(k,0)] [⟨BB ae w_ ag b d e f q x s y u z,some 115⟩,⟨Cv aa t_ ac ab ad o p,some 76⟩] [⟨an,x_v20.length,ao,153,3,bf,0⟩,⟨af,x_v21.length,ah,158,2,bg,0⟩] w'∧Ae.le b0 a0∧Ag a0 x_v20 bf∧Ag a0 x_v21 bg∧AW iw w_ t_ x_v20 x_v21 x_v22=some ba) n ?_ ?_
   ·
    exact XY bj.1 ⟨bj.2,0,b7,cb,cv,b8,cc,cw,_,_,rfl,ga.kp,ee,Ae.le_refl _,ff,fg,d0⟩
   ·
    rintro cu _ jo ⟨x_v20,x_v21,x_v22,an,ao,bf,af,ah,bg,dv,a0,rfl,gb,cq,b3,c3,c4,a1⟩
    clear d0
    obtain _ | cu:=cu
    ·
     rw [AW] at a1; cases a1
    rw [AW] at a1
    replace cm:=cm.mono b3
    replace ci:=ci.mono b3
    replace bv:=bv.mono b3
    refine XT (Aa (Rk 0 1 ((tB 67 (decide (x_v22<((w_.route.spares.length:Nat):Int))))::(tI 66 x_v22)::(Gv w_ e f af x_v21 ah an x_v20 ao)) gb cq fun kh c9=>?_))
    refine wf (XT (wC (decide (x_v22<((w_.route.spares.length:Nat):Int))) c9 (fun cy=>?_) (fun cy=>?_)))
    ·
     rw [cy,XW] at a1
     refine wp_skip (XT (wp_block (XT (Aa (Rk 0 1 ((tI 68 x_v22)::(tI 66 x_v22)::(Gv w_ e f af x_v21 ah an x_v20 ao)) c9 cq fun ki gc=>?_)))))
     obtain⟨x69,ex69,a1⟩:=Aq a1
     obtain⟨hr,h0,iq⟩:=Ai ex69
     obtain⟨av,aw,j1,ex,ig,e8⟩:=cm.get (by decide) iq
     obtain⟨_,_,rfl,rfl,rfl⟩:=ig
     have ef:Ah ⟨w,h,Aj⟩ a0 [(g,0),(k,0),(av,aw+(x_v22:Int).toNat*2)] [⟨BB ae w_ ag b d e f q x s y u z,some 115⟩,⟨Cv aa t_ ac ab ad o p,some 76⟩,⟨ED x69,none⟩] [⟨an,x_v20.length,ao,153,3,bf,0⟩,⟨af,x_v21.length,ah,158,2,bg,0⟩] jo:=cq.addPlc (cs:=(ED x69)) (fun j c hj=>e8 j _ (Al hj)) rfl (by kernel_rfl) (by kernel_rfl)
     refine Bc 1 (x_v22) rfl rfl (rfl) rfl (by decide) gc (by rfl) (by rfl) (by rfl) ex (by rfl) hr h0 (by kernel_rfl) fun i8 (gd:Kn 102 [(g,0),(k,0),(av,aw+(x_v22:Int).toNat*2)] ((tP 69 2 0)::(tI 68 x_v22)::(tI 66 x_v22)::(Gv w_ e f af x_v21 ah an x_v20 ao)) i8)=>?_
     refine Rk 2 1 ((tA 70 (ED x69))::(tI 68 x_v22)::(tI 66 x_v22)::(Gv w_ e f af x_v21 ah an x_v20 ao)) gd ef fun kj gf=>?_
     refine wl fun K hK=>?_
     refine wa [.int .i64 0,.int .i64 0] gf ef fun az i9 jp (gg:Kn 102 [(g,0),(k,0),(av,aw+(x_v22:Int).toNat*2),(az,0)] ((tP 9 3 0)::(tA 70 (ED x69))::(tI 68 x_v22)::(tI 66 x_v22)::(Gv w_ e f af x_v21 ah an x_v20 ao)) i9) (eg:Ah ⟨w,h,Aj⟩ a0 [(g,0),(k,0),(av,aw+(x_v22:Int).toNat*2),(az,0)] [⟨BB ae w_ ag b d e f q x s y u z,some 115⟩,⟨Cv aa t_ ac ab ad o p,some 76⟩,⟨ED x69,none⟩,⟨[.int .i64 0,.int .i64 0],some 110⟩] [⟨an,x_v20.length,ao,153,3,bf,0⟩,⟨af,x_v21.length,ah,158,2,bg,0⟩] jp)=>hK _ _ ?_
     refine Rk 4 1 ((tI 8 x_v22)::(tP 9 3 0)::(tA 70 (ED x69))::(tI 66 x_v22)::(Gv w_ e f af x_v21 ah an x_v20 ao)) gg eg fun ja gh=>?_
     refine wl fun K hK=>?_
     refine G2 3 0 (.agg (ED x69)) (ED x69) gh eg fun eo gi (eh:Ah ⟨w,h,Aj⟩ a0 [(g,0),(k,0),(av,aw+(x_v22:Int).toNat*2),(az,0)] [⟨BB ae w_ ag b d e f q x s y u z,some 115⟩,⟨Cv aa t_ ac ab ad o p,some 76⟩,⟨ED x69,none⟩,⟨ED x69,some 110⟩] [⟨an,x_v20.length,ao,153,3,bf,0⟩,⟨af,x_v21.length,ah,158,2,bg,0⟩] eo)=>hK _ _ ?_
     have gj:Kn 102 [(g,0),(k,0),(av,aw+(x_v22:Int).toNat*2),(az,0)] ((tI 8 x_v22)::(tP 9 3 0)::(tI 66 x_v22)::(Gv w_ e f af x_v21 ah an x_v20 ao)) ja:=gi.kp
     refine wf (XT (Aa (Rk 0 4 ((tI 74 x_v22)::(tS 73 u w_.acts.spares.length z)::(tI 8 x_v22)::(tP 9 3 0)::(tI 66 x_v22)::(Gv w_ e f af x_v21 ah an x_v20 ao)) gj eh fun kk gk=>?_)))
     obtain⟨x75,ex75,a1⟩:=Aq a1
     obtain⟨hs,h1,ir⟩:=Ai ex75
     obtain⟨bc,be,j2,ey,ih,e9⟩:=ci.get (by decide) ir
     obtain rfl:=ih
     have cf:Ah ⟨w,h,Aj⟩ a0 (P8 g k av aw x_v22 az bc be) [⟨BB ae w_ ag b d e f q x s y u z,some 115⟩,⟨Cv aa t_ ac ab ad o p,some 76⟩,⟨ED x69,none⟩,⟨ED x69,some 110⟩,⟨[.bool x75],none⟩] [⟨an,x_v20.length,ao,153,3,bf,0⟩,⟨af,x_v21.length,ah,158,2,bg,0⟩] eo:=eh.addPlc (cs:=[.bool x75]) (fun j c hj=>e9 j _ (Al hj)) rfl (by kernel_rfl) (by kernel_rfl)
     refine Bc 4 (x_v22) rfl rfl (rfl) rfl (by decide) gk (by rfl) (by rfl) (by rfl) ey (by rfl) hs h1 (by kernel_rfl) fun jc (gl:Kn 102 (P8 g k av aw x_v22 az bc be) ((tP 75 4 0)::(tI 74 x_v22)::(tS 73 u w_.acts.spares.length z)::(tI 8 x_v22)::(tP 9 3 0)::(tI 66 x_v22)::(Gv w_ e f af x_v21 ah an x_v20 ao)) jc)=>?_
     refine Rk 5 1 ((tB 76 x75)::(tI 8 x_v22)::(tP 9 3 0)::(tI 66 x_v22)::(Gv w_ e f af x_v21 ah an x_v20 ao)) gl cf fun kl da=>?_
     refine wf (wC (x75) da (fun cz=>?_) (fun cz=>?_))
     ·
      rw [cz,XW] at a1
      refine XT (Aa (Rk 0 6 ((tA 82 (SE x69))::(tS 77 an x_v20.length ao)::(Qs x_v22 w_ e f af x_v21 ah)) da cf fun km gm=>?_))
      refine wl fun K hK=>?_
      refine wS 153 3 (SE x69) gm cf fun bz jd jr (go:Kn 102 (P8 g k av aw x_v22 az bc be) ((tS 83 bz 1 1)::(tA 82 (SE x69))::(tS 77 an x_v20.length ao)::(Qs x_v22 w_ e f af x_v21 ah)) jd) (ei:Ah ⟨w,h,Aj⟩ a0 (P8 g k av aw x_v22 az bc be) [⟨BB ae w_ ag b d e f q x s y u z,some 115⟩,⟨Cv aa t_ ac ab ad o p,some 76⟩,⟨ED x69,none⟩,⟨ED x69,some 110⟩,⟨[.bool x75],none⟩] [⟨an,x_v20.length,ao,153,3,bf,0⟩,⟨af,x_v21.length,ah,158,2,bg,0⟩,⟨bz,1,1,153,3,([.int .i64 x69.stop,.int .i64 x69.tm,.int .i64 (-1)]:List Value),0⟩] jr)=>?_
      have c7:Ag a0 ([Bi.mk x69.stop x69.tm (-1)]:List Bi) ([.int .i64 x69.stop,.int .i64 x69.tm,.int .i64 (-1)]:List Value):=⟨_,_,rfl,((Ab Ac (Ab Ac Ac)):rep a0 ((Bi.mk x69.stop x69.tm (-1)):Bi) _),rfl⟩
      refine hK _ _ ?_
      obtain⟨x84,ex84,a1⟩:=Aq a1
      obtain⟨dr,hc⟩:=A8 ex84
      refine wl fun K hK=>?_
      refine A3 0 24 1 _ (x84.length) _ ([.int .i64 x69.stop,.int .i64 x69.tm,.int .i64 (-1)]:List Value) go ei rfl rfl (by decide) rfl (by rfl) (by kernel_rfl) (by rfl) (by rfl) (Ag.len c7) (ei.rowCell (i:=2) rfl) c7.one (by rw [dr]; simp) (by rw [dr]; exact hc) (by decide) fun bb bd d4 je ep fk (gp:Kn 102 (P8 g k av aw x_v22 az bc be) ((tS 84 bb x84.length bd)::(tS 83 bz 1 1)::(tA 82 (SE x69))::(tS 77 an x_v20.length ao)::(Qs x_v22 w_ e f af x_v21 ah)) je) (dh:Ah ⟨w,h,Aj⟩ a0 (P8 g k av aw x_v22 az bc be) [⟨BB ae w_ ag b d e f q x s y u z,some 115⟩,⟨Cv aa t_ ac ab ad o p,some 76⟩,⟨ED x69,none⟩,⟨ED x69,some 110⟩,⟨[.bool x75],none⟩] [⟨bb,x84.length,bd,153,3,bf++([.int .i64 x69.stop,.int .i64 x69.tm,.int .i64 (-1)]:List Value),d4⟩,⟨af,x_v21.length,ah,158,2,bg,0⟩,⟨bz,1,1,153,3,([.int .i64 x69.stop,.int .i64 x69.tm,.int .i64 (-1)]:List Value),0⟩] ep)=>?_
      have fa:Ag a0 x84 (bf++([.int .i64 x69.stop,.int .i64 x69.tm,.int .i64 (-1)]:List Value)):=by rw [dr]; exact Ag.append c3 c7
      obtain rfl:d4=0:=Nat.le_zero.1 fk
      refine hK _ _ ?_
      refine Rk 8 1 ((tS 4 bb x84.length bd)::(Qs x_v22 w_ e f af x_v21 ah)) gp dh fun kn gq=>?_
      refine wf (Aa (Rk 0 9 ((tI 93 (IntKind.i64.wrap (((w_.route.buses.length:Nat):Int)+x_v22)))::(tS 87 o t_.legs.length p)::(Ox af x_v21 ah bb x84 bd x_v22 w_ e f)) gq dh fun ko gr=>?_))
      obtain⟨x94,ex94,a1⟩:=Aq a1
      obtain⟨ht,h2,iu⟩:=Ai ex94
      obtain⟨br,bx,j3,ez,ii,fb⟩:=bv.get (by decide) iu
      obtain⟨bh,bi,rfl,h5⟩:=ii
      have ej:Ah ⟨w,h,Aj⟩ a0 (P9 g k av aw x_v22 az bc be br bx w_) [⟨BB ae w_ ag b d e f q x s y u z,some 115⟩,⟨Cv aa t_ ac ab ad o p,some 76⟩,⟨ED x69,none⟩,⟨ED x69,some 110⟩,⟨[.bool x75],none⟩,⟨[.slice bh x94.length bi],none⟩] [⟨bb,x84.length,bd,153,3,bf++([.int .i64 x69.stop,.int .i64 x69.tm,.int .i64 (-1)]:List Value),0⟩,⟨af,x_v21.length,ah,158,2,bg,0⟩,⟨bz,1,1,153,3,([.int .i64 x69.stop,.int .i64 x69.tm,.int .i64 (-1)]:List Value),0⟩] ep:=dh.addPlc (cs:=[.slice bh x94.length bi]) (fun j c hj=>fb j _ (Al hj)) rfl (by kernel_rfl) (by kernel_rfl)
      refine Bc 9 (IntKind.i64.wrap (((w_.route.buses.length:Nat):Int)+x_v22)) rfl rfl (rfl) rfl (by decide) gr (by rfl) (by rfl) (by rfl) ez (by rfl) ht h2 (by kernel_rfl) fun jg (gs:Kn 102 (P9 g k av aw x_v22 az bc be br bx w_) ((tP 94 5 0)::(tI 93 (IntKind.i64.wrap (((w_.route.buses.length:Nat):Int)+x_v22)))::(tS 87 o t_.legs.length p)::(Ox af x_v21 ah bb x84 bd x_v22 w_ e f)) jg)=>?_
      refine Rk 10 2 ((tA 96 [.slice bh x94.length bi,.int .i64 0])::(Ox af x_v21 ah bb x84 bd x_v22 w_ e f)) gs ej fun kq gu=>?_
      refine wl fun K hK=>?_
      refine wS 158 2 [.slice bh x94.length bi,.int .i64 0] gu ej fun co jh js (gv:Kn 102 (P9 g k av aw x_v22 az bc be br bx w_) ((tS 97 co 1 1)::(tA 96 [.slice bh x94.length bi,.int .i64 0])::(Ox af x_v21 ah bb x84 bd x_v22 w_ e f)) jh) (ek:Ah ⟨w,h,Aj⟩ a0 (P9 g k av aw x_v22 az bc be br bx w_) [⟨BB ae w_ ag b d e f q x s y u z,some 115⟩,⟨Cv aa t_ ac ab ad o p,some 76⟩,⟨ED x69,none⟩,⟨ED x69,some 110⟩,⟨[.bool x75],none⟩,⟨[.slice bh x94.length bi],none⟩] [⟨bb,x84.length,bd,153,3,bf++([.int .i64 x69.stop,.int .i64 x69.tm,.int .i64 (-1)]:List Value),0⟩,⟨af,x_v21.length,ah,158,2,bg,0⟩,⟨bz,1,1,153,3,([.int .i64 x69.stop,.int .i64 x69.tm,.int .i64 (-1)]:List Value),0⟩,⟨co,1,1,158,2,([.slice bh x94.length bi,.int .i64 0]:List Value),0⟩] js)=>?_
      have c8:Ag a0 ([A5.mk x94 0]:List A5) ([.slice bh x94.length bi,.int .i64 0]:List Value):=⟨_,_,rfl,((Ab (Ad h5) Ac):rep a0 ((A5.mk x94 0):A5) _),rfl⟩
      refine hK _ _ ?_
      obtain⟨x98,ex98,a1⟩:=Aq a1
      obtain⟨ds,hd⟩:=A8 ex98
      refine wl fun K hK=>?_
      refine A3 1 32 1 _ (x98.length) _ ([.slice bh x94.length bi,.int .i64 0]:List Value) gv ek rfl rfl (by decide) rfl (by rfl) (by kernel_rfl) (by rfl) (by rfl) (Ag.len c8) (ek.rowCell (i:=3) rfl) c8.one (by rw [ds]; simp) (by rw [ds]; exact hd) (by decide) fun b6 ca d5 ji jt fl (gx:Kn 102 (P9 g k av aw x_v22 az bc be br bx w_) ((tS 98 b6 x98.length ca)::(tS 97 co 1 1)::(tA 96 [.slice bh x94.length bi,.int .i64 0])::(Ox af x_v21 ah bb x84 bd x_v22 w_ e f)) ji) (di:Ah ⟨w,h,Aj⟩ a0 (P9 g k av aw x_v22 az bc be br bx w_) [⟨BB ae w_ ag b d e f q x s y u z,some 115⟩,⟨Cv aa t_ ac ab ad o p,some 76⟩,⟨ED x69,none⟩,⟨ED x69,some 110⟩,⟨[.bool x75],none⟩,⟨[.slice bh x94.length bi],none⟩] [⟨bb,x84.length,bd,153,3,bf++([.int .i64 x69.stop,.int .i64 x69.tm,.int .i64 (-1)]:List Value),0⟩,⟨b6,x98.length,ca,158,2,bg++([.slice bh x94.length bi,.int .i64 0]:List Value),d5⟩,⟨bz,1,1,153,3,([.int .i64 x69.stop,.int .i64 x69.tm,.int .i64 (-1)]:List Value),0⟩,⟨co,1,1,158,2,([.slice bh x94.length bi,.int .i64 0]:List Value),0⟩] jt)=>?_
      have fc:Ag a0 x98 (bg++([.slice bh x94.length bi,.int .i64 0]:List Value)):=by rw [ds]; exact Ag.append c4 c8
      obtain rfl:d5=0:=Nat.le_zero.1 fl
      refine hK _ _ ?_
      refine Rk 14 1 [tS 5 b6 x98.length ca,tS 4 bb x84.length bd,tI 66 x_v22,tI 65 ((w_.route.spares.length:Nat):Int),tS 64 e w_.route.spares.length f,tP 3 1 0,tP 2 0 0] gx di fun kr gy=>?_
      refine wf (Aa (Rk 0 2 [tI 66 (IntKind.i64.wrap (x_v22+1)),tS 5 b6 x98.length ca,tS 4 bb x84.length bd,tI 65 ((w_.route.spares.length:Nat):Int),tS 64 e w_.route.spares.length f,tP 3 1 0,tP 2 0 0] gy di fun ks gz=>?_))
      refine wf ?_
      exact XY cu ⟨Nat.lt_succ_self _,XY x84 ⟨x98,IntKind.i64.wrap (x_v22+1),bb,bd,bf++([.int .i64 x69.stop,.int .i64 x69.tm,.int .i64 (-1)]:List Value),b6,ca,bg++([.slice bh x94.length bi,.int .i64 0]:List Value),_,_,rfl,(gz.keep [66,65,64,5,4,3,2] (by rfl)).cut 2 (by kernel_rfl),(di.cutRw 2).cutPl 2 (by kernel_rfl),b3,fa,fc,a1⟩⟩
     ·
      rw [cz,XV] at a1
      refine wp_skip (Aa (Rk 0 2 ((tI 66 (IntKind.i64.wrap (x_v22+1)))::(Gv w_ e f af x_v21 ah an x_v20 ao)) da cf fun kt g0=>?_))
      refine wf ?_
      exact XY cu ⟨Nat.lt_succ_self _,XY x_v20 ⟨x_v21,IntKind.i64.wrap (x_v22+1),an,ao,bf,af,ah,bg,_,_,rfl,(g0.keep [66,65,64,5,4,3,2] (by rfl)).cut 2 (by kernel_rfl),cf.cutPl 2 (by kernel_rfl),b3,c3,c4,a1⟩⟩
    ·
     rw [cy,XV] at a1
     refine wp_exit ?_
     obtain rfl:=XZ a1
     exact XY an ⟨ao,bf,af,ah,bg,_,_,rfl,c9.kp,cq,b3,c3,c4⟩
  ·
   rintro _ er ⟨bo,bs,b2,bp,bt,b4,du,cd,rfl,g1,dk,j5,c5,c6⟩
   refine XT (Aa (Rk 0 4 [tS 5 bp ba.2.length bt,tS 4 bo ba.1.length bs] g1 dk fun ku g2=>?_))
   refine wf (wp_ret ?_)
   obtain⟨d6,ea,h7,cr⟩:=dk.settle (i:=0) rfl
   replace c5:=c5.mono ea
   replace cr:Ah ⟨w,h,Aj⟩ d6 [(g,0),(k,0)] [⟨BB ae w_ ag b d e f q x s y u z,some 115⟩,⟨Cv aa t_ ac ab ad o p,some 76⟩] [⟨bo,ba.1.length,bs,153,3,b2,(b2:List Value).length⟩,⟨bp,ba.2.length,bt,158,2,b4,0⟩] er:=cr
   have dm:A6 d6 bo bs ba.1:=⟨_,c5,h7,dk.rowCap (i:=0) rfl⟩
   obtain⟨d7,eb,h8,dl⟩:=cr.settle (i:=1) rfl
   replace dm:=dm.mono eb
   replace c6:=c6.mono (XU ea eb)
   replace dl:Ah ⟨w,h,Aj⟩ d7 [(g,0),(k,0)] [⟨BB ae w_ ag b d e f q x s y u z,some 115⟩,⟨Cv aa t_ ac ab ad o p,some 76⟩] [⟨bo,ba.1.length,bs,153,3,b2,(b2:List Value).length⟩,⟨bp,ba.2.length,bt,158,2,b4,(b4:List Value).length⟩] er:=dl
   have h6:A6 d7 bp bt ba.2:=⟨_,c6,h8,cr.rowCap (i:=1) rfl⟩
   obtain rfl:=XZ H
   exact rt (.tup [.c (.slice bo ba.1.length bs),.c (.slice bp ba.2.length bt)]) g2 dl ⟨_,_,rfl,⟨_,_,rfl,dm⟩,⟨_,_,rfl,h6⟩⟩
end Go.Proofs.Ytokchpjijlebiaa
