/- Each call computes its plain function. -/
import Derived.Test.YtokchpjijlebiaaGreatProg
import Derived.Test.YtokchpjijlebiaaGreatRQP0
set_option linter.all false
namespace Go.Proofs.YtokchpjijlebiaaGreat
open Go Go.RowKit
set_option maxRecDepth 100000
set_option maxHeartbeats 4000000
open Rep (rep)
open KRep (kv)
open VRep (rv)
theorem Cx (n:Nat) {h:Ae} {w:World} (hh:Dk h w) (n_:Int) (low:Int) (high:Int) {r:Bool} (H:Bq n n_ low high=some r) :
  Calls Tryz.prog 60 #[.int .i64 n_,.int .i64 low,.int .i64 high] w (Dq (fun h v=>v=.bool r) h w):=by
 refine enter 15 [.c (Ws n_),.c (Ws low),.c (Ws high)] Tryz.func60 rfl rfl rfl rfl fun t hk=>?_
 have hm:=Ah.begin h w hh
 unfold Bq at H
 refine XT (Aa (Rk 0 1 [tI 0 n_,tI 1 low,tI 2 high] hk hm fun k f=>?_))
 refine wf (XT (Aa (Rk 0 4 [tB 10 (decide (low≤n_)),tI 0 n_,tI 2 high] f hm fun d b=>?_)))
 rcases Xb (decide (low≤n_)) with a | a
 ·
  rw [a,XW] at H
  have g:Kn 15 [] [tB 10 true,tI 0 n_,tI 2 high] d:=(b.setB 10 true (by rfl) a).kp
  refine Rk 4 5 [tB 6 (decide (n_≤high))] g hm fun m i=>?_
  refine wf (wp_ret ?_)
  obtain rfl:=XZ H
  exact rt (.one (.c (.bool (decide (n_≤high))))) i hm rfl
 ·
  rw [a,XV] at H
  have j:Kn 15 [] [tB 10 false,tI 0 n_,tI 2 high] d:=(b.setB 10 false (by rfl) a).kp
  refine Rk 4 5 [tB 6 false] j hm fun l e=>?_
  refine wf (wp_ret ?_)
  obtain rfl:=XZ H
  exact rt (.one (.c (.bool false))) e hm rfl
theorem E6 (n:Nat) {h:Ae} {w:World} (hh:Dk h w) (n_:Int) {r:Bool} (H:CF n n_=some r) :
  Calls Tryz.prog 65 #[.int .i64 n_] w (Dq (fun h v=>v=.bool r) h w):=by
 refine enter 5 [.c (Ws n_)] Tryz.func65 rfl rfl rfl rfl fun t hk=>?_
 have hm:=Ah.begin h w hh
 unfold CF at H
 refine XT (Aa (Rk 0 1 [tI 0 n_] hk hm fun l f=>?_))
 refine wf (XT (Aa (Rk 0 1 [tI 3 n_] f hm fun o g=>?_)))
 obtain⟨x4,kI,H⟩:=Av H
 refine wl fun K hK=>?_
 refine wc [.c (Ws n_),.c (Ws 0),.c (Ws 2000)] g hm (Cx n hm.has n_ 0 2000 kI) fun p j q b k a=>?_
 obtain rfl:=b
 refine⟨.one (.c (.bool x4)),rfl,fun i (d:Kn 5 [] [tB 4 x4,tI 3 n_] i)=>hK _ _ ?_⟩
 refine Rk 2 1 [tB 2 x4] d a fun m e=>?_
 refine wf (wp_ret ?_)
 obtain rfl:=XZ H
 exact rt (.one (.c (.bool x4))) e a rfl
theorem Cy (n:Nat) {h:Ae} {w:World} (hh:Dk h w) (r_:Af) {aP:Wx} (aW:rep h r_ aP) {r:Int} (H:AT n r_=some r) :
  Calls Tryz.prog 72 #[.agg aP.toArray] w (Dq (fun h v=>v=.int .i64 r) h w):=by
 obtain⟨_,_,rfl,⟨a,e,rfl,p⟩,⟨_,_,rfl,⟨_,_,rfl,rfl,rfl⟩,⟨_,_,rfl,⟨b,f,rfl,q⟩,⟨_,_,rfl,⟨d,g,rfl,s⟩,⟨_,_,rfl,rfl,⟨_,_,rfl,rfl,⟨_,_,rfl,rfl,rfl⟩⟩⟩⟩⟩⟩⟩:=aW
 refine enter 7 [.agg (UB a r_ e b f d g)] Tryz.func72 rfl rfl rfl rfl fun t hk=>?_
 have hm:=Ah.begin h w hh
 unfold AT at H
 refine XT (Aa (wl fun K hK=>?_))
 refine wb (.agg (UB a r_ e b f d g)) hk hm fun j o y (k:Kn 7 [(j,0)] [tP 1 0 0,tA 0 (UB a r_ e b f d g)] o) i=>hK _ _ ?_
 refine Rk 1 1 [tP 1 0 0] k i fun u l=>?_
 refine wf (XT (Aa (Rk 0 5 [tI 2 (IntKind.i64.wrap (((r_.lA.length:Nat):Int)+1))] l i fun x m=>?_)))
 refine wf (wp_ret ?_)
 obtain rfl:=XZ H
 exact rt (.one (.c (Ws (IntKind.i64.wrap (((r_.lA.length:Nat):Int)+1))))) m i rfl
theorem DI (n:Nat) {h:Ae} {w:World} (hh:Dk h w) (r_:Af) {aP:Wx} (aW:rep h r_ aP) {r:Int} (H:BP n r_=some r) :
  Calls Tryz.prog 66 #[.agg aP.toArray] w (Dq (fun h v=>v=.int .i64 r) h w):=by
 obtain⟨_,_,rfl,⟨a,e,rfl,u⟩,⟨_,_,rfl,⟨_,_,rfl,rfl,rfl⟩,⟨_,_,rfl,⟨b,f,rfl,x⟩,⟨_,_,rfl,⟨d,g,rfl,y⟩,⟨_,_,rfl,rfl,⟨_,_,rfl,rfl,⟨_,_,rfl,rfl,rfl⟩⟩⟩⟩⟩⟩⟩:=aW
 refine enter 6 [.agg (UB a r_ e b f d g)] Tryz.func66 rfl rfl rfl rfl fun t hk=>?_
 have hm:=Ah.begin h w hh
 unfold BP at H
 refine XT (Aa (wl fun K hK=>?_))
 refine wb (.agg (UB a r_ e b f d g)) hk hm fun j z ah (m:Kn 6 [(j,0)] [tP 1 0 0,tA 0 (UB a r_ e b f d g)] z) i=>hK _ _ ?_
 refine Rk 1 1 [tP 1 0 0] m i fun ad o=>?_
 refine wf (XT (Aa (Rk 0 1 [tA 3 (UB a r_ e b f d g)] o i fun ae p=>?_)))
 obtain⟨x4,kI,H⟩:=Av H
 refine wl fun K hK=>?_
 refine wc [.agg (UB a r_ e b f d g)] p i (Cy n i.has r_ ((Ab (Ad u) (Ab (Ab Ac Ac) (Ab (Ad x) (Ab (Ad y) (Ab Ac (Ab Ac (Ab Ac Ac))))))):rep h r_ _) kI) fun ag ab ai l ac k=>?_
 obtain rfl:=l
 refine⟨.one (.c (Ws x4)),rfl,fun aa (q:Kn 6 [(j,0)] [tI 4 x4,tA 3 (UB a r_ e b f d g)] aa)=>hK _ _ ?_⟩
 refine Rk 2 2 [tI 2 (IntKind.i64.wrap (Int.tdiv x4 2))] q k fun af s=>?_
 refine wf (wp_ret ?_)
 obtain rfl:=XZ H
 exact rt (.one (.c (Ws (IntKind.i64.wrap (Int.tdiv x4 2))))) s k rfl
theorem Dn (n:Nat) {h:Ae} {w:World} (hh:Dk h w) (r_:Af) {aP:Wx} (aW:rep h r_ aP) (n_:Int) {r:Bool} (H:Bp n r_ n_=some r) :
  Calls Tryz.prog 51 #[.agg aP.toArray,.int .i64 n_] w (Dq (fun h v=>v=.bool r) h w):=by
 obtain⟨_,_,rfl,⟨a,e,rfl,aa⟩,⟨_,_,rfl,⟨_,_,rfl,rfl,rfl⟩,⟨_,_,rfl,⟨b,f,rfl,ab⟩,⟨_,_,rfl,⟨d,g,rfl,ac⟩,⟨_,_,rfl,rfl,⟨_,_,rfl,rfl,⟨_,_,rfl,rfl,rfl⟩⟩⟩⟩⟩⟩⟩:=aW
 refine enter 10 [.agg (UB a r_ e b f d g),.c (Ws n_)] Tryz.func51 rfl rfl rfl rfl fun t hk=>?_
 have hm:=Ah.begin h w hh
 unfold Bp at H
 refine XT (Aa (wl fun K hK=>?_))
 refine wb (.agg (UB a r_ e b f d g)) hk hm fun j ad aq (p:Kn 10 [(j,0)] [tP 2 0 0,tA 0 (UB a r_ e b f d g),tI 1 n_] ad) i=>hK _ _ ?_
 refine Rk 1 1 [tP 2 0 0,tI 1 n_] p i fun ak q=>?_
 refine wf (XT (Aa (Rk 0 2 [tA 6 (UB a r_ e b f d g),tI 5 n_] q i fun al s=>?_)))
 obtain⟨x7,fL,H⟩:=Av H
 refine wl fun K hK=>?_
 refine wc [.agg (UB a r_ e b f d g)] s i (Cy n i.has r_ ((Ab (Ad aa) (Ab (Ab Ac Ac) (Ab (Ad ab) (Ab (Ad ac) (Ab Ac (Ab Ac (Ab Ac Ac))))))):rep h r_ _) fL) fun ao ag ar m ai k=>?_
 obtain rfl:=m
 refine⟨.one (.c (Ws x7)),rfl,fun ae (u:Kn 10 [(j,0)] [tI 7 x7,tA 6 (UB a r_ e b f d g),tI 5 n_] ae)=>hK _ _ ?_⟩
 refine Rk 3 1 [tI 8 (IntKind.i64.wrap (x7-1)),tI 5 n_] u k fun am x=>?_
 obtain⟨x9,iL,H⟩:=Av H
 refine wl fun K hK=>?_
 refine wc [.c (Ws n_),.c (Ws 0),.c (Ws (IntKind.i64.wrap (x7-1)))] x k (Cx n k.has n_ 0 (IntKind.i64.wrap (x7-1)) iL) fun ap ah au o aj l=>?_
 obtain rfl:=o
 refine⟨.one (.c (.bool x9)),rfl,fun af (y:Kn 10 [(j,0)] [tB 9 x9,tI 8 (IntKind.i64.wrap (x7-1)),tI 5 n_] af)=>hK _ _ ?_⟩
 refine Rk 5 1 [tB 4 x9] y l fun an z=>?_
 refine wf (wp_ret ?_)
 obtain rfl:=XZ H
 exact rt (.one (.c (.bool x9))) z l rfl
theorem FV (n:Nat) {h:Ae} {w:World} (hh:Dk h w) (r_:Rg) {aP:Wx} (aW:rep h r_ aP) (most:Int) {r:Bool} (H:C8 n r_ most=some r) :
  Calls Tryz.prog 63 #[.agg aP.toArray,.int .i64 most] w (Dq (fun h v=>v=.bool r) h w):=by
 obtain⟨_,_,rfl,rfl,rfl⟩:=aW
 refine enter 21 [.agg [Ws r_.lo,Ws r_.hi],.c (Ws most)] Tryz.func63 rfl rfl rfl rfl fun t hk=>?_
 have hm:=Ah.begin h w hh
 unfold C8 at H
 refine XT (Aa (wl fun K hK=>?_))
 refine wb (.agg [Ws r_.lo,Ws r_.hi]) hk hm fun b y ad (u:Kn 21 [(b,0)] [tP 2 0 0,tA 0 [Ws r_.lo,Ws r_.hi],tI 1 most] y) a=>hK _ _ ?_
 refine Rk 1 1 [tP 2 0 0,tI 1 most] u a fun ac x=>?_
 refine wf (XT (Aa (Rk 0 4 [tB 8 (decide (0≤r_.lo)),tP 2 0 0,tI 1 most] x a fun j g=>?_)))
 rcases Xb (decide (0≤r_.lo)) with d | d
 ·
  rw [d,XW] at H
  have k:Kn 21 [(b,0)] [tB 8 true,tP 2 0 0,tI 1 most] j:=(g.setB 8 true (by rfl) d).kp
  refine Rk 4 7 [tB 15 (decide (r_.lo≤r_.hi)),tP 2 0 0,tI 1 most] k a fun i f=>?_
  rcases Xb (decide (r_.lo≤r_.hi)) with e | e
  ·
   rw [e,XW] at H
   have l:Kn 21 [(b,0)] [tB 15 true,tP 2 0 0,tI 1 most] i:=(f.setB 15 true (by rfl) e).kp
   refine Rk 11 6 [tB 4 (decide (r_.hi≤most))] l a fun z m=>?_
   refine wf (wp_ret ?_)
   obtain rfl:=XZ H
   exact rt (.one (.c (.bool (decide (r_.hi≤most))))) m a rfl
  ·
   rw [e,XV] at H
   have o:Kn 21 [(b,0)] [tB 15 false,tP 2 0 0,tI 1 most] i:=(f.setB 15 false (by rfl) e).kp
   refine Rk 11 6 [tB 4 false] o a fun aa p=>?_
   refine wf (wp_ret ?_)
   obtain rfl:=XZ H
   exact rt (.one (.c (.bool false))) p a rfl
 ·
  rw [d,XV] at H
  have q:Kn 21 [(b,0)] [tB 8 false,tP 2 0 0,tI 1 most] j:=(g.setB 8 false (by rfl) d).kp
  refine Rk 4 13 [tB 4 false] q a fun ab s=>?_
  refine wf (wp_ret ?_)
  obtain rfl:=XZ H
  exact rt (.one (.c (.bool false))) s a rfl
theorem FL (n:Nat) {h:Ae} {w:World} (hh:Dk h w) (r_:Rg) {aP:Wx} (aW:rep h r_ aP) {r:Bool} (H:BB n r_=some r) :
  Calls Tryz.prog 68 #[.agg aP.toArray] w (Dq (fun h v=>v=.bool r) h w):=by
 obtain⟨_,_,rfl,rfl,rfl⟩:=aW
 refine enter 5 [.agg [Ws r_.lo,Ws r_.hi]] Tryz.func68 rfl rfl rfl rfl fun t hk=>?_
 have hm:=Ah.begin h w hh
 unfold BB at H
 refine XT (Aa (wl fun K hK=>?_))
 refine wb (.agg [Ws r_.lo,Ws r_.hi]) hk hm fun b m z (i:Kn 5 [(b,0)] [tP 1 0 0,tA 0 [Ws r_.lo,Ws r_.hi]] m) a=>hK _ _ ?_
 refine Rk 1 1 [tP 1 0 0] i a fun s j=>?_
 refine wf (XT (Aa (Rk 0 1 [tA 3 [Ws r_.lo,Ws r_.hi]] j a fun u k=>?_)))
 obtain⟨x4,kI,H⟩:=Av H
 refine wl fun K hK=>?_
 refine wc [.agg [Ws r_.lo,Ws r_.hi],.c (Ws 300)] k a (FV n a.has r_ ((Ab Ac Ac):rep h r_ _) 300 kI) fun x o y e p d=>?_
 obtain rfl:=e
 refine⟨.one (.c (.bool x4)),rfl,fun l (f:Kn 5 [(b,0)] [tB 4 x4,tA 3 [Ws r_.lo,Ws r_.hi]] l)=>hK _ _ ?_⟩
 refine Rk 2 1 [tB 2 x4] f d fun q g=>?_
 refine wf (wp_ret ?_)
 obtain rfl:=XZ H
 exact rt (.one (.c (.bool x4))) g d rfl
theorem EQ (n:Nat) {h:Ae} {w:World} (hh:Dk h w) (r_:Rg) {aP:Wx} (aW:rep h r_ aP) (n_:Int) {r:Bool} (H:Cu n r_ n_=some r) :
  Calls Tryz.prog 71 #[.agg aP.toArray,.int .i64 n_] w (Dq (fun h v=>v=.bool r) h w):=by
 obtain⟨_,_,rfl,rfl,rfl⟩:=aW
 refine enter 11 [.agg [Ws r_.lo,Ws r_.hi],.c (Ws n_)] Tryz.func71 rfl rfl rfl rfl fun t hk=>?_
 have hm:=Ah.begin h w hh
 unfold Cu at H
 refine XT (Aa (wl fun K hK=>?_))
 refine wb (.agg [Ws r_.lo,Ws r_.hi]) hk hm fun b m z (i:Kn 11 [(b,0)] [tP 2 0 0,tA 0 [Ws r_.lo,Ws r_.hi],tI 1 n_] m) a=>hK _ _ ?_
 refine Rk 1 1 [tP 2 0 0,tI 1 n_] i a fun s j=>?_
 refine wf (XT (Aa (Rk 0 5 [tI 9 r_.hi,tI 7 r_.lo,tI 5 n_] j a fun u k=>?_)))
 obtain⟨bP,dS,H⟩:=Av H
 refine wl fun K hK=>?_
 refine wc [.c (Ws n_),.c (Ws r_.lo),.c (Ws r_.hi)] k a (Cx n a.has n_ r_.lo r_.hi dS) fun x o y e p d=>?_
 obtain rfl:=e
 refine⟨.one (.c (.bool bP)),rfl,fun l (f:Kn 11 [(b,0)] [tB 10 bP,tI 9 r_.hi,tI 7 r_.lo,tI 5 n_] l)=>hK _ _ ?_⟩
 refine Rk 6 1 [tB 4 bP] f d fun q g=>?_
 refine wf (wp_ret ?_)
 obtain rfl:=XZ H
 exact rt (.one (.c (.bool bP))) g d rfl
theorem Bo (n:Nat) {h:Ae} {w:World} (hh:Dk h w) (r_:Rg) {aP:Wx} (aW:rep h r_ aP) {r:Int} (H:Al n r_=some r) :
  Calls Tryz.prog 55 #[.agg aP.toArray] w (Dq (fun h v=>v=.int .i64 r) h w):=by
 obtain⟨_,_,rfl,rfl,rfl⟩:=aW
 refine enter 5 [.agg [Ws r_.lo,Ws r_.hi]] Tryz.func55 rfl rfl rfl rfl fun t hk=>?_
 have hm:=Ah.begin h w hh
 unfold Al at H
 refine XT (Aa (wl fun K hK=>?_))
 refine wb (.agg [Ws r_.lo,Ws r_.hi]) hk hm fun b g k (d:Kn 5 [(b,0)] [tP 1 0 0,tA 0 [Ws r_.lo,Ws r_.hi]] g) a=>hK _ _ ?_
 refine Rk 1 1 [tP 1 0 0] d a fun i e=>?_
 refine wf (XT (Aa (Rk 0 3 [tI 2 r_.lo] e a fun j f=>?_)))
 refine wf (wp_ret ?_)
 obtain rfl:=XZ H
 exact rt (.one (.c (Ws r_.lo))) f a rfl
theorem C7 (n:Nat) {h:Ae} {w:World} (hh:Dk h w) (r_:Rg) {aP:Wx} (aW:rep h r_ aP) {r:Int} (H:Aw n r_=some r) :
  Calls Tryz.prog 56 #[.agg aP.toArray] w (Dq (fun h v=>v=.int .i64 r) h w):=by
 obtain⟨_,_,rfl,rfl,rfl⟩:=aW
 refine enter 5 [.agg [Ws r_.lo,Ws r_.hi]] Tryz.func56 rfl rfl rfl rfl fun t hk=>?_
 have hm:=Ah.begin h w hh
 unfold Aw at H
 refine XT (Aa (wl fun K hK=>?_))
 refine wb (.agg [Ws r_.lo,Ws r_.hi]) hk hm fun b g k (d:Kn 5 [(b,0)] [tP 1 0 0,tA 0 [Ws r_.lo,Ws r_.hi]] g) a=>hK _ _ ?_
 refine Rk 1 1 [tP 1 0 0] d a fun i e=>?_
 refine wf (XT (Aa (Rk 0 3 [tI 2 r_.hi] e a fun j f=>?_)))
 refine wf (wp_ret ?_)
 obtain rfl:=XZ H
 exact rt (.one (.c (Ws r_.hi))) f a rfl
theorem F5 (n:Nat) {h:Ae} {w:World} (hh:Dk h w) (r_:Af) {aP:Wx} (aW:rep h r_ aP) (n_:Int) {r:Bool} (H:AC n r_ n_=some r) :
  Calls Tryz.prog 73 #[.agg aP.toArray,.int .i64 n_] w (Dq (fun h v=>v=.bool r) h w):=by
 obtain⟨_,_,rfl,⟨a,e,rfl,aa⟩,⟨_,_,rfl,⟨_,_,rfl,rfl,rfl⟩,⟨_,_,rfl,⟨b,f,rfl,ab⟩,⟨_,_,rfl,⟨d,g,rfl,ac⟩,⟨_,_,rfl,rfl,⟨_,_,rfl,rfl,⟨_,_,rfl,rfl,rfl⟩⟩⟩⟩⟩⟩⟩:=aW
 refine enter 11 [.agg (UB a r_ e b f d g),.c (Ws n_)] Tryz.func73 rfl rfl rfl rfl fun t hk=>?_
 have hm:=Ah.begin h w hh
 unfold AC at H
 refine XT (Aa (wl fun K hK=>?_))
 refine wb (.agg (UB a r_ e b f d g)) hk hm fun j u ah (m:Kn 11 [(j,0)] [tP 2 0 0,tA 0 (UB a r_ e b f d g),tI 1 n_] u) i=>hK _ _ ?_
 refine Rk 1 1 [tP 2 0 0,tI 1 n_] m i fun ad o=>?_
 refine wf (XT (Aa (Rk 0 5 [tI 9 r_.to_,tI 7 r_.fr,tI 5 n_] o i fun ae p=>?_)))
 obtain⟨bP,dS,H⟩:=Av H
 refine wl fun K hK=>?_
 refine wc [.c (Ws n_),.c (Ws r_.fr),.c (Ws r_.to_)] p i (Cx n i.has n_ r_.fr r_.to_ dS) fun ag y ai l z k=>?_
 obtain rfl:=l
 refine⟨.one (.c (.bool bP)),rfl,fun x (q:Kn 11 [(j,0)] [tB 10 bP,tI 9 r_.to_,tI 7 r_.fr,tI 5 n_] x)=>hK _ _ ?_⟩
 refine Rk 6 1 [tB 4 bP] q k fun af s=>?_
 refine wf (wp_ret ?_)
 obtain rfl:=XZ H
 exact rt (.one (.c (.bool bP))) s k rfl
theorem FM (n:Nat) {h:Ae} {w:World} (hh:Dk h w) (r_:Af) {aP:Wx} (aW:rep h r_ aP) (b:CW) {iG:Wx} (kJ:rep h b iG) (at_:Int) {r:Bool} (H:C0 n r_ b at_=some r) :
  Calls Tryz.prog 61 #[.agg aP.toArray,.agg iG.toArray,.int .i64 at_] w (Dq (fun h v=>v=.bool r) h w):=by
 obtain⟨_,_,rfl,⟨a,f,rfl,ak⟩,⟨_,_,rfl,⟨_,_,rfl,rfl,rfl⟩,⟨_,_,rfl,⟨d,g,rfl,al⟩,⟨_,_,rfl,⟨e,i,rfl,am⟩,⟨_,_,rfl,rfl,⟨_,_,rfl,rfl,⟨_,_,rfl,rfl,rfl⟩⟩⟩⟩⟩⟩⟩:=aW
 obtain⟨_,_,rfl,rfl,⟨_,_,rfl,rfl,rfl⟩⟩:=kJ
 refine enter 18 [.agg (UB a r_ f d g e i),.agg (Nz b),.c (Ws at_)] Tryz.func61 rfl rfl rfl rfl fun t hk=>?_
 have hm:=Ah.begin h w hh
 unfold C0 at H
 refine XT (Aa (wl fun K hK=>?_))
 refine wb (.agg (UB a r_ f d g e i)) hk hm fun k an a4 (aa:Kn 18 [(k,0)] [tP 3 0 0,tA 0 (UB a r_ f d g e i),tA 1 (Nz b),tI 2 at_] an) aj=>hK _ _ ?_
 refine wl fun K hK=>?_
 refine wb (.agg (Nz b)) aa aj fun l ao a5 (ab:Kn 18 [(k,0),(l,0)] [tP 4 1 0,tP 3 0 0,tA 0 (UB a r_ f d g e i),tA 1 (Nz b),tI 2 at_] ao) j=>hK _ _ ?_
 refine Rk 2 1 [tP 4 1 0,tP 3 0 0,tI 2 at_] ab j fun ax ac=>?_
 refine wf (XT (Am (by kernel_rfl) ?_))
 replace j:=j.drew
 refine Ao [] [(k,0),(l,0)] [⟨UB a r_ f d g e i,some 48⟩,⟨Nz b,some 87⟩] ?_
 refine Dr [0,1,2] [2,1,0] [tB 9 (at_ == (-1)),tP 4 1 0,tP 3 0 0,tI 2 at_] ac j fun x q=>?_
 rcases Xb ((at_ == (-1))) with m | m
 ·
  rw [m,XW] at H
  have ad:Kn 18 [(k,0),(l,0)] [tB 9 true,tP 4 1 0,tP 3 0 0,tI 2 at_] x:=(q.setB 9 true (by rfl) m).kp
  refine Dr [3,4,5,6,7,8,9,10,11] (dn 11) [tB 6 true] ad j fun ay ae=>?_
  refine A2 (by kernel_rfl) (wp_ret ?_)
  obtain rfl:=XZ H
  exact rt (.one (.c (.bool true))) ae j rfl
 ·
  rw [m,XV] at H
  have af:Kn 18 [(k,0),(l,0)] [tB 9 false,tP 4 1 0,tP 3 0 0,tI 2 at_] x:=(q.setB 9 false (by rfl) m).kp
  refine Dr [3,4,5,6] (dn 6) [tA 13 (UB a r_ f d g e i),tI 12 b.stop,tI 10 at_,tB 9 false] af j fun az s=>?_
  obtain⟨cN,fV,H⟩:=Av H
  refine EJ 7 rfl (by kernel_rfl) (by decide) (Aj s (by kernel_rfl)) fun K hK=>?_
  refine wc [.agg (UB a r_ f d g e i)] s j (DI n j.has r_ ((Ab (Ad ak) (Ab (Ab Ac Ac) (Ab (Ad al) (Ab (Ad am) (Ab Ac (Ab Ac (Ab Ac Ac))))))):rep h r_ _) fV) fun a2 ar a6 y av o=>?_
  obtain rfl:=y
  refine⟨.one (.c (Ws cN)),rfl,fun ap (ag:Kn 18 [(k,0),(l,0)] [tI 14 cN,tA 13 (UB a r_ f d g e i),tI 12 b.stop,tI 10 at_,tB 9 false] ap)=>hK _ _ o.plOk ?_⟩
  refine Dr [8] (dn 8) [tI 15 (IntKind.i64.wrap (cN-2)),tI 12 b.stop,tI 10 at_,tB 9 false] ag o fun a0 u=>?_
  obtain⟨cH,eV,H⟩:=Av H
  refine EJ 9 rfl (by kernel_rfl) (by decide) (Aj u (by kernel_rfl)) fun K hK=>?_
  refine wc [.c (Ws at_),.c (Ws b.stop),.c (Ws (IntKind.i64.wrap (cN-2)))] u o (Cx n o.has at_ b.stop (IntKind.i64.wrap (cN-2)) eV) fun a3 au a7 z aw p=>?_
  obtain rfl:=z
  refine⟨.one (.c (.bool cH)),rfl,fun aq (ah:Kn 18 [(k,0),(l,0)] [tB 16 cH,tI 15 (IntKind.i64.wrap (cN-2)),tI 12 b.stop,tI 10 at_,tB 9 false] aq)=>hK _ _ p.plOk ?_⟩
  refine Dr [10,11] (dn 11) [tB 6 cH] ah p fun a1 ai=>?_
  refine A2 (by kernel_rfl) (wp_ret ?_)
  obtain rfl:=XZ H
  exact rt (.one (.c (.bool cH))) ai p rfl
abbrev Fq (aA)(r_:Af)(a d):=([tI 43 aA,tI 42 ((r_.lB.length:Nat):Int),tS 41 a r_.lB.length d,tP 3 1 0,tP 2 0 0]:TM)
abbrev Je (eO:List Int)(l m aC)(t_:Ap)(e f):=([tI 83 ((eO.length:Nat):Int),tS 82 l eO.length m,tI 72 aC,tI 71 ((t_.lA.length:Nat):Int),tS 70 e t_.lA.length f,tP 2 0 0]:TM)
abbrev Nl (t_:Ap)(e f):=([tI 71 ((t_.lA.length:Nat):Int),tS 70 e t_.lA.length f,tP 2 0 0]:TM)
theorem IF (n:Nat) {h:Ae} {w:World} (hh:Dk h w) (r_:Af) {aP:Wx} (aW:rep h r_ aP) (t_:Ap) {cI:Wx} (dF:rep h t_ cI) {r:Bool} (H:CR n r_ t_=some r) :
  Calls Tryz.prog 41 #[.agg aP.toArray,.agg cI.toArray] w (Dq (fun h v=>v=.bool r) h w):=by
 obtain⟨_,_,rfl,⟨p,y,rfl,ag⟩,⟨_,_,rfl,⟨_,_,rfl,rfl,rfl⟩,⟨_,_,rfl,⟨a,d,rfl,ah⟩,⟨_,_,rfl,⟨ab,ac,rfl,ai⟩,⟨_,_,rfl,rfl,⟨_,_,rfl,rfl,⟨_,_,rfl,rfl,rfl⟩⟩⟩⟩⟩⟩⟩:=aW
 obtain⟨_,_,rfl,⟨q,u,rfl,ad⟩,⟨_,_,rfl,⟨s,x,rfl,ae⟩,⟨e,f,rfl,af⟩⟩⟩:=dF
 refine enter 99 [.agg (UB p r_ y a d ab ac),.agg (Ie q t_ u s x e f)] Tryz.func41 rfl rfl rfl rfl fun t hk=>?_
 have hm:=Ah.begin h w hh
 unfold CR at H
 refine XT (Aa (wl fun K hK=>?_))
 refine wb (.agg (UB p r_ y a d ab ac)) hk hm fun g f7 h4 (ea:Kn 99 [(g,0)] [tP 2 0 0,tA 0 (UB p r_ y a d ab ac),tA 1 (Ie q t_ u s x e f)] f7) fa=>hK _ _ ?_
 refine wl fun K hK=>?_
 refine wb (.agg (Ie q t_ u s x e f)) ea fa fun i ga h6 (ei:Kn 99 [(g,0),(i,0)] [tP 3 1 0,tP 2 0 0,tA 0 (UB p r_ y a d ab ac),tA 1 (Ie q t_ u s x e f)] ga) ao=>hK _ _ ?_
 refine Rk 2 1 EO ei ao fun hl er=>?_
 refine wf (XT (XT ?_))
 obtain⟨c0,aw,H⟩:=Av H
 refine A0 (fun a' w'=>∃ (cg:Array Value)(a4:Ae),a' = ⟨cg,[]⟩∧Kn 99 [(g,0),(i,0)] [tP 3 1 0,tP 2 0 0,tB 39 c0] cg∧Ah ⟨w,h,A6⟩ a4 [(g,0),(i,0)] [⟨UB p r_ y a d ab ac,some 48⟩,⟨Ie q t_ u s x e f,some 52⟩] [] w'∧Ae.le h a4) ?_ ?_
 ·
  refine Aa (Rk 0 8 ((tB 18 (((t_.tm.length:Nat):Int) != ((r_.lB.length:Nat):Int)))::EO) er ao fun c6 cq=>?_)
  rcases Xb ((((t_.tm.length:Nat):Int) != ((r_.lB.length:Nat):Int))) with a7 | a7
  ·
   rw [a7,XW] at aw
   have es:Kn 99 [(g,0),(i,0)] ((tB 18 true)::EO) c6:=(cq.setB 18 true (by rfl) a7).kp
   refine Rk 8 21 ((tB 39 true)::EO) es ao fun ho et=>?_
   refine wf ?_
   obtain rfl:=XZ aw
   exact XY _ ⟨_,rfl,et.kp,ao,Ae.le_refl _⟩
  ·
   rw [a7,XV] at aw
   have eu:Kn 99 [(g,0),(i,0)] ((tB 18 false)::EO) c6:=(cq.setB 18 false (by rfl) a7).kp
   refine Rk 8 9 ((tB 27 (((t_.lE.length:Nat):Int) != ((r_.lB.length:Nat):Int)))::EO) eu ao fun c7 cr=>?_
   rcases Xb ((((t_.lE.length:Nat):Int) != ((r_.lB.length:Nat):Int))) with a8 | a8
   ·
    rw [a8,XW] at aw
    have ev:Kn 99 [(g,0),(i,0)] ((tB 27 true)::EO) c7:=(cr.setB 27 true (by rfl) a8).kp
    refine Rk 17 12 ((tB 39 true)::EO) ev ao fun hp ew=>?_
    refine wf ?_
    obtain rfl:=XZ aw
    exact XY _ ⟨_,rfl,ew.kp,ao,Ae.le_refl _⟩
   ·
    rw [a8,XV] at aw
    have ex:Kn 99 [(g,0),(i,0)] ((tB 27 false)::EO) c7:=(cr.setB 27 false (by rfl) a8).kp
    refine Rk 17 12 ((tB 39 (((t_.lA.length:Nat):Int) != (IntKind.i64.wrap (((r_.lB.length:Nat):Int)+((r_.lC.length:Nat):Int)))))::EO) ex ao fun hq ey=>?_
    refine wf ?_
    obtain rfl:=XZ aw
    exact XY _ ⟨_,rfl,ey.kp,ao,Ae.le_refl _⟩
 ·
  rintro _ ia ⟨cg,a4,rfl,b2,bg,a0⟩
  replace ag:=ag.mono a0
  replace ah:=ah.mono a0
  replace ai:=ai.mono a0
  replace ad:=ad.mono a0
  replace ae:=ae.mono a0
  replace af:=af.mono a0
  refine wC (c0) b2 (fun bu=>?_) (fun bu=>?_)
  ·
   rw [bu,XW] at H
   refine XT (Aa (Rk 0 1 [tB 4 false] b2 bg fun hr ez=>?_))
   refine wf (wp_ret ?_)
   obtain rfl:=XZ H
   exact rt (.one (.c (.bool false))) ez bg rfl
  ·
   rw [bu,XV] at H
   refine wp_skip (XT (XT (Aa (Rk 0 4 ((tI 43 0)::(tI 42 ((r_.lB.length:Nat):Int))::(tS 41 a r_.lB.length d)::EO) b2 bg fun hs e0=>?_))))
   refine wf ?_
   obtain⟨c1,cl,H⟩:=Av H
   refine A0 (fun a' w'=>∃ (c4:Unit)(ch:Array Value)(a5:Ae),a' = ⟨ch,[]⟩∧Kn 99 [(g,0),(i,0)] EO ch∧Ah ⟨w,h,A6⟩ a5 [(g,0),(i,0)] [⟨UB p r_ y a d ab ac,some 48⟩,⟨Ie q t_ u s x e f,some 52⟩] [] w'∧Ae.le a4 a5∧c1=.go c4) ?_ ?_
   ·
    refine wp_block ?_
    refine Au (fun f2 a' w'=>∃ (aA:Int)(ci:Array Value)(be:Ae),a' = ⟨ci,[]⟩∧Kn 99 [(g,0),(i,0)] (Fq aA r_ a d) ci∧Ah ⟨w,h,A6⟩ be [(g,0),(i,0)] [⟨UB p r_ y a d ab ac,some 48⟩,⟨Ie q t_ u s x e f,some 52⟩] [] w'∧Ae.le a4 be∧B4 f2 r_ t_ aA=some c1) n ?_ ?_
    ·
     exact XY 0 ⟨_,_,rfl,e0.kp,bg,Ae.le_refl _,cl⟩
    ·
     rintro bb _ ib ⟨aA,ci,be,rfl,e1,bh,ar,k⟩
     clear cl
     obtain _ | bb:=bb
     ·
      rw [B4] at k; cases k
     rw [B4] at k
     replace ag:=ag.mono ar
     replace ah:=ah.mono ar
     replace ai:=ai.mono ar
     replace ad:=ad.mono ar
     replace ae:=ae.mono ar
     replace af:=af.mono ar
     refine XT (Aa (Rk 0 1 ((tB 44 (decide (aA<((r_.lB.length:Nat):Int))))::(Fq aA r_ a d)) e1 bh fun ht b3=>?_))
     refine wf (XT (wC (decide (aA<((r_.lB.length:Nat):Int))) b3 (fun bv=>?_) (fun bv=>?_)))
     ·
      rw [bv,XW] at k
      refine wp_skip (XT (wp_block (XT (Aa (Rk 0 1 ((tI 45 aA)::(Fq aA r_ a d)) b3 bh fun hu e2=>?_)))))
      obtain⟨fB,ex46,k⟩:=Av k
      obtain⟨fg,fm,fz⟩:=Ai ex46
      obtain⟨aj,ak,gm,dh,ft,dp⟩:=ah.get (by decide) fz
      obtain⟨_,_,rfl,rfl,⟨_,_,rfl,rfl,rfl⟩⟩:=ft
      have cw:=bh.addPlc (b:=aj) (o:=ak+Wv aA*3) (cs:=(Nz fB)) (fun j c hj=>dp j _ (Ak hj)) rfl (by kernel_rfl) (by kernel_rfl)
      refine Bl 1 (aA) rfl rfl (rfl) rfl (by decide) e2 (by rfl) (by rfl) (by rfl) dh (by rfl) fg fm (by kernel_rfl) fun gd (e3:Kn 99 [(g,0),(i,0),(aj,ak+Wv aA*3)] ((tP 46 2 0)::(tI 45 aA)::(Fq aA r_ a d)) gd)=>?_
      refine Rk 2 1 ((tA 47 (Nz fB))::(tI 45 aA)::(Fq aA r_ a d)) e3 cw fun hv e4=>?_
      refine wl fun K hK=>?_
      refine wa [Ws 0,Ws 0,Ws 0] e4 cw fun am gf ic (e5:Kn 99 [(g,0),(i,0),(aj,ak+Wv aA*3),(am,0)] ((tP 6 3 0)::(tA 47 (Nz fB))::(tI 45 aA)::(Fq aA r_ a d)) gf) cx=>hK _ _ ?_
      refine Rk 4 1 ((tI 5 aA)::(tP 6 3 0)::(tA 47 (Nz fB))::(Fq aA r_ a d)) e5 cx fun gg e6=>?_
      refine wl fun K hK=>?_
      refine EZ 3 0 (.agg (Nz fB)) (Nz fB) e6 cx fun hz dq a9=>hK _ _ ?_
      have dr:Kn 99 [(g,0),(i,0),(aj,ak+Wv aA*3),(am,0)] ((tI 5 aA)::(tP 6 3 0)::(Fq aA r_ a d)) gg:=dq.kp
      refine wf (XT (Am (by kernel_rfl) ?_))
      replace a9:=a9.drew
      refine Ao [] [(g,0),(i,0),(aj,ak+Wv aA*3),(am,0)] [⟨UB p r_ y a d ab ac,some 48⟩,⟨Ie q t_ u s x e f,some 52⟩,⟨Nz fB,none⟩,⟨Nz fB,some 87⟩] ?_
      refine Dr [0,1,2,3,4] (dn 4) ((tI 52 aA)::(tS 51 q t_.tm.length u)::(tA 49 (VX fB))::(tI 5 aA)::(Fq aA r_ a d)) dr a9 fun gr ds=>?_
      obtain⟨gE,ex53,k⟩:=Av k
      obtain⟨fb,fh,fu⟩:=Ai ex53
      obtain⟨av,ay,gh,dc,fn,di⟩:=ad.get (by decide) fu
      obtain rfl:=fn
      have b4:=a9.addPlc (b:=av) (o:=ay+Wv aA*1) (cs:=[Ws gE]) (fun j c hj=>di j _ (Ak hj)) rfl (by kernel_rfl) (by kernel_rfl)
      refine Az 5 (aA) [Ws gE] (fun _ _ _ _ _ h=>h) rfl rfl (rfl) rfl (by decide) (by kernel_rfl) (by kernel_rfl) ds a9.plOk (by rfl) (by rfl) (by rfl) dc (by rfl) fb fh (by kernel_rfl) fun f3 (dt:Kn 99 [(g,0),(i,0),(aj,ak+Wv aA*3),(am,0),(av,ay+Wv aA*1)] ((tP 53 4 0)::(tI 52 aA)::(tS 51 q t_.tm.length u)::(tA 49 (VX fB))::(tI 5 aA)::(Fq aA r_ a d)) f3)=>?_
      refine Dr [6] (dn 6) ((tI 54 gE)::(tA 49 (VX fB))::(tI 5 aA)::(Fq aA r_ a d)) dt b4 fun gs du=>?_
      obtain⟨eQ,kM,k⟩:=Av k
      refine Dl 7 fun K hK=>?_
      refine wc [.agg (VX fB),.c (Ws gE)] du b4 (EQ bb b4.has fB.tm ((Ab Ac Ac):rep be fB.tm _) gE kM) fun hw db h0 c8 ax au=>?_
      replace ag:=ag.mono ax
      replace ah:=ah.mono ax
      replace ai:=ai.mono ax
      replace ad:=ad.mono ax
      replace ae:=ae.mono ax
      replace af:=af.mono ax
      obtain rfl:=c8
      refine⟨.one (.c (.bool eQ)),rfl,fun f4 (dv:Kn 99 [(g,0),(i,0),(aj,ak+Wv aA*3),(am,0),(av,ay+Wv aA*1)] ((tB 55 eQ)::(tI 54 gE)::(tA 49 (VX fB))::(tI 5 aA)::(Fq aA r_ a d)) f4)=>hK _ _ au.plOk ?_⟩
      refine Dr [8,9] (dn 9) ((tB 57 (!eQ))::(tI 5 aA)::(Fq aA r_ a d)) dv au fun c5 cm=>?_
      rcases Xb ((!eQ)) with a6 | a6
      ·
       rw [a6,XW] at k
       have dw:Kn 99 [(g,0),(i,0),(aj,ak+Wv aA*3),(am,0),(av,ay+Wv aA*1)] ((tB 57 true)::(tI 5 aA)::(Fq aA r_ a d)) c5:=(cm.setB 57 true (by rfl) a6).kp
       refine Dr [10,11,12,13,14,15,16,17,18,19] (dn 19) ((tB 67 true)::(Fq aA r_ a d)) dw au fun gu cn=>?_
       refine A2 (by kernel_rfl) (wC true cn (fun hb=>?_) (fun hb=>?_))
       rotate_left
       ·
        cases hb
       refine XT (Aa (Rk 0 1 [tB 4 false] cn au fun gv dx=>?_))
       refine wf (wp_ret ?_)
       obtain rfl:=XZ k
       obtain rfl:=XZ H
       exact rt (.one (.c (.bool false))) dx au rfl
      ·
       rw [a6,XV] at k
       have dy:Kn 99 [(g,0),(i,0),(aj,ak+Wv aA*3),(am,0),(av,ay+Wv aA*1)] ((tB 57 false)::(tI 5 aA)::(Fq aA r_ a d)) c5:=(cm.setB 57 false (by rfl) a6).kp
       refine Dr [10,11,12,13,14] (dn 14) ((tI 62 aA)::(tS 61 s t_.lE.length x)::(tA 59 (UJ r_))::(tB 57 false)::(Fq aA r_ a d)) dy au fun gw co=>?_
       obtain⟨dC,gW,k⟩:=Av k
       obtain⟨fc,fi,fv⟩:=Ai gW
       obtain⟨bl,ca,gi,dd,fo,dj⟩:=ae.get (by decide) fv
       obtain rfl:=fo
       have b5:=au.addPlc (b:=bl) (o:=ca+Wv aA*1) (cs:=[Ws dC]) (fun j c hj=>dj j _ (Ak hj)) rfl (by kernel_rfl) (by kernel_rfl)
       refine Az 15 (aA) [Ws dC] (fun _ _ _ _ _ h=>h) rfl rfl (Aj co (by kernel_rfl)) rfl (by decide) (by kernel_rfl) (by kernel_rfl) co au.plOk (by rfl) (by rfl) (by rfl) dd (by rfl) fc fi (by kernel_rfl) fun f5 (dz:Kn 99 [(g,0),(i,0),(aj,ak+Wv aA*3),(am,0),(av,ay+Wv aA*1),(bl,ca+Wv aA*1)] ((tP 63 5 0)::(tI 62 aA)::(tS 61 s t_.lE.length x)::(tA 59 (UJ r_))::(tB 57 false)::(Fq aA r_ a d)) f5)=>?_
       refine Dr [16] (dn 16) ((tI 64 dC)::(tA 59 (UJ r_))::(tB 57 false)::(Fq aA r_ a d)) dz b5 fun gx cp=>?_
       obtain⟨bC,kL,k⟩:=Av k
       refine EJ 17 rfl (by kernel_rfl) (by decide) (Aj cp (by kernel_rfl)) fun K hK=>?_
       refine wc [.agg (UJ r_),.c (Ws dC)] cp b5 (EQ bb b5.has r_.turn ((Ab Ac Ac):rep db r_.turn _) dC kL) fun hx gn h1 c9 e7 a1=>?_
       obtain rfl:=c9
       refine⟨.one (.c (.bool bC)),rfl,fun f6 (d0:Kn 99 [(g,0),(i,0),(aj,ak+Wv aA*3),(am,0),(av,ay+Wv aA*1),(bl,ca+Wv aA*1)] ((tB 65 bC)::(tI 64 dC)::(tA 59 (UJ r_))::(tB 57 false)::(Fq aA r_ a d)) f6)=>hK _ _ a1.plOk ?_⟩
       refine Dr [18,19] (dn 19) ((tB 67 (!bC))::(Fq aA r_ a d)) d0 a1 fun gy bw=>?_
       refine A2 (by kernel_rfl) (wC ((!bC)) bw (fun bp=>?_) (fun bp=>?_))
       ·
        rw [bp,XW] at k
        refine XT (Aa (Rk 0 1 [tB 4 false] bw a1 fun gz d1=>?_))
        refine wf (wp_ret ?_)
        obtain rfl:=XZ k
        obtain rfl:=XZ H
        exact rt (.one (.c (.bool false))) d1 a1 rfl
       ·
        rw [bp,XV] at k
        refine wp_skip (Aa (Rk 0 2 ((tI 43 (IntKind.i64.wrap (aA+1)))::(tI 42 ((r_.lB.length:Nat):Int))::(tS 41 a r_.lB.length d)::EO) bw a1 fun g0 d2=>?_))
        refine wf ?_
        exact XY bb ⟨Xc _,XY (IntKind.i64.wrap (aA+1)) ⟨_,_,rfl,(d2.keep [43,42,41,3,2] (by rfl)).cut 2 (by kernel_rfl),a1.cutPl 2 (by kernel_rfl),XU ar (XU ax e7),k⟩⟩
     ·
      rw [bv,XV] at k
      refine wp_exit ?_
      obtain rfl:=XZ k
      exact XY () ⟨_,_,rfl,b3.kp,bh,ar,rfl⟩
   ·
    rintro _ h2 ⟨c4,ch,a5,rfl,d3,ct,az,rfl⟩
    rw [Ex.bind_go] at H
    replace ag:=ag.mono az
    replace ah:=ah.mono az
    replace ai:=ai.mono az
    replace ad:=ad.mono az
    replace ae:=ae.mono az
    replace af:=af.mono az
    refine XT (XT (Aa (Rk 0 4 ((tI 72 0)::(Nl t_ e f)) d3 ct fun g1 d4=>?_)))
    refine wf ?_
    obtain⟨cy,cj,H⟩:=Av H
    refine A0 (fun a' w'=>∃ (c2:Unit)(cc:Array Value)(bn:Ae),a' = ⟨cc,[]⟩∧Kn 99 [(g,0),(i,0)] [] cc∧Ah ⟨w,h,A6⟩ bn [(g,0),(i,0)] [⟨UB p r_ y a d ab ac,some 48⟩,⟨Ie q t_ u s x e f,some 52⟩] [] w'∧Ae.le a5 bn∧cy=.go c2) ?_ ?_
    ·
     refine wp_block ?_
     refine Au (fun f0 a' w'=>∃ (aC:Int)(cd:Array Value)(a3:Ae),a' = ⟨cd,[]⟩∧Kn 99 [(g,0),(i,0)] ((tI 72 aC)::(Nl t_ e f)) cd∧Ah ⟨w,h,A6⟩ a3 [(g,0),(i,0)] [⟨UB p r_ y a d ab ac,some 48⟩,⟨Ie q t_ u s x e f,some 52⟩] [] w'∧Ae.le a5 a3∧B6 f0 r_ t_ aC=some cy) n ?_ ?_
     ·
      exact XY 0 ⟨_,_,rfl,d4.kp,ct,Ae.le_refl _,cj⟩
     ·
      rintro bi _ h3 ⟨aC,cd,a3,rfl,d5,b6,aq,z⟩
      clear cj
      obtain _ | bi:=bi
      ·
       rw [B6] at z; cases z
      rw [B6] at z
      replace ag:=ag.mono aq
      replace ah:=ah.mono aq
      replace ai:=ai.mono aq
      replace ad:=ad.mono aq
      replace ae:=ae.mono aq
      replace af:=af.mono aq
      refine XT (Aa (Rk 0 1 ((tB 73 (decide (aC<((t_.lA.length:Nat):Int))))::(tI 72 aC)::(Nl t_ e f)) d5 b6 fun g2 bx=>?_))
      refine wf (XT (wC (decide (aC<((t_.lA.length:Nat):Int))) bx (fun bq=>?_) (fun bq=>?_)))
      ·
       rw [bq,XW] at z
       refine wp_skip (XT (wp_block (XT (Aa ?_))))
       obtain⟨eO,ex74,z⟩:=Av z
       obtain⟨fd,fj,fw⟩:=Ai ex74
       obtain⟨al,ap,gj,de,fp,dk⟩:=af.get (by decide) fw
       obtain⟨l,m,rfl,b9⟩:=fp
       have a2:=b6.addPlc (b:=al) (o:=ap+Wv aC*1) (cs:=[Wu l eO.length m]) (fun j c hj=>dk j _ (Ak hj)) rfl (by kernel_rfl) (by kernel_rfl)
       refine Bl 0 (aC) rfl rfl (rfl) rfl (by decide) bx (by rfl) (by rfl) (by rfl) de (by rfl) fd fj (by kernel_rfl) fun f8 (d6:Kn 99 [(g,0),(i,0),(al,ap+Wv aC*1)] ((tP 74 2 0)::(tB 73 (decide (aC<((t_.lA.length:Nat):Int))))::(tI 72 aC)::(Nl t_ e f)) f8)=>?_
       refine Rk 1 2 ((tS 8 l eO.length m)::(tI 72 aC)::(Nl t_ e f)) d6 a2 fun g3 d7=>?_
       refine wf (XT (XT (Aa (Rk 0 6 ((tB 81 (((eO.length:Nat):Int) != ((r_.lA.length:Nat):Int)))::(tS 8 l eO.length m)::(tI 72 aC)::(Nl t_ e f)) d7 a2 fun g4 bz=>?_))))
       refine wf (wC ((((eO.length:Nat):Int) != ((r_.lA.length:Nat):Int))) bz (fun br=>?_) (fun br=>?_))
       ·
        rw [br,XW] at z
        refine XT (Aa (Rk 0 1 [tB 4 false] bz a2 fun g5 d8=>?_))
        refine wf (wp_ret ?_)
        obtain rfl:=XZ z
        obtain rfl:=XZ H
        exact rt (.one (.c (.bool false))) d8 a2 rfl
       ·
        rw [br,XV] at z
        refine wp_skip (XT (Aa (Rk 0 3 ((tI 84 0)::(Je eO l m aC t_ e f)) bz a2 fun g6 d9=>?_)))
        refine wf ?_
        obtain⟨cz,ck,z⟩:=Av z
        refine A0 (fun a' w'=>∃ (c3:Unit)(ce:Array Value)(bo:Ae),a' = ⟨ce,[]⟩∧Kn 99 [(g,0),(i,0),(al,ap+Wv aC*1)] ((tI 72 aC)::(Nl t_ e f)) ce∧Ah ⟨w,h,A6⟩ bo [(g,0),(i,0),(al,ap+Wv aC*1)] [⟨UB p r_ y a d ab ac,some 48⟩,⟨Ie q t_ u s x e f,some 52⟩,⟨[Wu l eO.length m],none⟩] [] w'∧Ae.le a3 bo∧cz=.go c3) ?_ ?_
        ·
         refine wp_block ?_
         refine Au (fun f1 a' w'=>∃ (aH:Int)(cf:Array Value)(bd:Ae),a' = ⟨cf,[]⟩∧Kn 99 [(g,0),(i,0),(al,ap+Wv aC*1)] ((tI 84 aH)::(Je eO l m aC t_ e f)) cf∧Ah ⟨w,h,A6⟩ bd [(g,0),(i,0),(al,ap+Wv aC*1)] [⟨UB p r_ y a d ab ac,some 48⟩,⟨Ie q t_ u s x e f,some 52⟩,⟨[Wu l eO.length m],none⟩] [] w'∧Ae.le a3 bd∧B5 f1 r_ eO aH=some cz) bi ?_ ?_
         ·
          exact XY 0 ⟨_,_,rfl,d9.kp,a2,Ae.le_refl _,ck⟩
         ·
          rintro bj _ h5 ⟨aH,cf,bd,rfl,eb,bf,an,aa⟩
          clear ck
          obtain _ | bj:=bj
          ·
           rw [B5] at aa; cases aa
          rw [B5] at aa
          replace ag:=ag.mono an
          replace ah:=ah.mono an
          replace ai:=ai.mono an
          replace ad:=ad.mono an
          replace ae:=ae.mono an
          replace af:=af.mono an
          replace b9:=b9.mono an
          refine XT (Aa (Rk 0 1 ((tB 85 (decide (aH<((eO.length:Nat):Int))))::(tI 84 aH)::(Je eO l m aC t_ e f)) eb bf fun g7 b0=>?_))
          refine wf (XT (wC (decide (aH<((eO.length:Nat):Int))) b0 (fun bs=>?_) (fun bs=>?_)))
          ·
           rw [bs,XW] at aa
           refine wp_skip (XT (wp_block (XT (Aa (Rk 0 1 ((tI 86 aH)::(tI 84 aH)::(Je eO l m aC t_ e f)) b0 bf fun g8 ec=>?_)))))
           obtain⟨iP,ex87,aa⟩:=Av aa
           obtain⟨fe,fk,fx⟩:=Ai ex87
           obtain⟨bc,bk,gk,df,fq,dl⟩:=b9.get (by decide) fx
           obtain rfl:=fq
           have b7:=bf.addPlc (b:=bc) (o:=bk+Wv aH*1) (cs:=[Ws iP]) (fun j c hj=>dl j _ (Ak hj)) rfl (by kernel_rfl) (by kernel_rfl)
           refine Bl 1 (aH) rfl rfl (rfl) rfl (by decide) ec (by rfl) (by rfl) (by rfl) df (by rfl) fe fk (by kernel_rfl) fun f9 (ed:Kn 99 [(g,0),(i,0),(al,ap+Wv aC*1),(bc,bk+Wv aH*1)] ((tP 87 3 0)::(tI 86 aH)::(tI 84 aH)::(Je eO l m aC t_ e f)) f9)=>?_
           refine Rk 2 3 ((tI 10 iP)::(tI 9 aH)::(tI 84 aH)::(Je eO l m aC t_ e f)) ed b7 fun g9 ee=>?_
           refine wf (XT (Aa (Rk 0 3 ((tI 91 aH)::(tS 90 p r_.lA.length y)::(tI 10 iP)::(tI 84 aH)::(Je eO l m aC t_ e f)) ee b7 fun ha ef=>?_)))
           obtain⟨dX,iI,aa⟩:=Av aa
           obtain⟨ff,fl,fy⟩:=Ai iI
           obtain⟨bm,cb,gl,dg,fs,dm⟩:=ag.get (by decide) fy
           obtain⟨_,_,rfl,rfl,rfl⟩:=fs
           have b8:=b7.addPlc (b:=bm) (o:=cb+Wv aH*2) (cs:=[Ws dX.lo,Ws dX.hi]) (fun j c hj=>dm j _ (Ak hj)) rfl (by kernel_rfl) (by kernel_rfl)
           refine Bl 3 (aH) rfl rfl (rfl) rfl (by decide) ef (by rfl) (by rfl) (by rfl) dg (by rfl) ff fl (by kernel_rfl) fun gb (eg:Kn 99 [(g,0),(i,0),(al,ap+Wv aC*1),(bc,bk+Wv aH*1),(bm,cb+Wv aH*2)] ((tP 92 4 0)::(tI 91 aH)::(tS 90 p r_.lA.length y)::(tI 10 iP)::(tI 84 aH)::(Je eO l m aC t_ e f)) gb)=>?_
           refine Rk 4 2 ((tI 94 iP)::(tA 93 [Ws dX.lo,Ws dX.hi])::(tI 84 aH)::(Je eO l m aC t_ e f)) eg b8 fun hc eh=>?_
           obtain⟨gQ,ex95,aa⟩:=Av aa
           refine wl fun K hK=>?_
           refine wc [.agg [Ws dX.lo,Ws dX.hi],.c (Ws iP)] eh b8 (EQ bj b8.has dX ((Ab Ac Ac):rep bd dX _) iP ex95) fun hy gp h7 da e8 ba=>?_
           obtain rfl:=da
           refine⟨.one (.c (.bool gQ)),rfl,fun gc (ej:Kn 99 [(g,0),(i,0),(al,ap+Wv aC*1),(bc,bk+Wv aH*1),(bm,cb+Wv aH*2)] ((tB 95 gQ)::(tI 94 iP)::(tA 93 [Ws dX.lo,Ws dX.hi])::(tI 84 aH)::(Je eO l m aC t_ e f)) gc)=>hK _ _ ?_⟩
           refine Rk 7 1 ((tB 96 (!gQ))::(tI 84 aH)::(Je eO l m aC t_ e f)) ej ba fun hd b1=>?_
           refine wf (wC ((!gQ)) b1 (fun bt=>?_) (fun bt=>?_))
           ·
            rw [bt,XW] at aa
            refine XT (Aa (Rk 0 1 [tB 4 false] b1 ba fun he ek=>?_))
            refine wf (wp_ret ?_)
            obtain rfl:=XZ aa
            obtain rfl:=XZ z
            obtain rfl:=XZ H
            exact rt (.one (.c (.bool false))) ek ba rfl
           ·
            rw [bt,XV] at aa
            refine wp_skip (Aa (Rk 0 2 ((tI 84 (IntKind.i64.wrap (aH+1)))::(Je eO l m aC t_ e f)) b1 ba fun hf el=>?_))
            refine wf ?_
            exact XY bj ⟨Xc _,XY (IntKind.i64.wrap (aH+1)) ⟨_,_,rfl,(el.keep [84,83,82,72,71,70,2] (by rfl)).cut 3 (by kernel_rfl),ba.cutPl 3 (by kernel_rfl),XU an e8,aa⟩⟩
          ·
           rw [bs,XV] at aa
           refine wp_exit ?_
           obtain rfl:=XZ aa
           exact XY () ⟨_,_,rfl,b0.kp,bf,an,rfl⟩
        ·
         rintro _ h8 ⟨c3,ce,bo,rfl,em,cu,e9,rfl⟩
         rw [Ex.bind_go] at z
         refine Aa (Rk 0 2 ((tI 72 (IntKind.i64.wrap (aC+1)))::(Nl t_ e f)) em cu fun hg en=>?_)
         refine wf ?_
         exact XY bi ⟨Xc _,XY (IntKind.i64.wrap (aC+1)) ⟨_,_,rfl,(en.keep [72,71,70,2] (by rfl)).cut 2 (by kernel_rfl),cu.cutPl 2 (by kernel_rfl),XU aq e9,z⟩⟩
      ·
       rw [bq,XV] at z
       refine wp_exit ?_
       obtain rfl:=XZ z
       exact XY () ⟨_,_,rfl,bx.kp,b6,aq,rfl⟩
    ·
     rintro _ h9 ⟨c2,cc,bn,rfl,eo,cv,gq,rfl⟩
     rw [Ex.bind_go] at H
     refine XT (Aa (Rk 0 1 [tB 4 true] eo cv fun hn ep=>?_))
     refine wf (wp_ret ?_)
     obtain rfl:=XZ H
     exact rt (.one (.c (.bool true))) ep cv rfl
abbrev Qf (dQ:AK):=([Ws dQ.stop,Ws dQ.tm]:List SC)
abbrev Ti (dQ:AK):=([Ws dQ.stop,Ws dQ.tm,Ws (-1)]:List SC)
abbrev Tj (bM:CW)(dU:Int)(aV:Int)(w_:AM)(cK):=([Ws bM.stop,Ws (IntKind.i64.wrap (dU+(IntKind.i64.wrap (aV*w_.lH.lI)))),Ws cK]:List SC)
abbrev Tk (k l ae)(af:Nat)(aM:Int)(aq aw)(ax:Nat)(ay)(az:Nat)(a0)(a1:Nat):=([(k,0),(l,0),(ae,af+Wv aM*3),(aq,0),(aw,ax+Wv aM*1),(ay,az+Wv aM*1),(a0,a1+Wv aM*1)]:Bh)
abbrev UO (k l a5)(a9:Nat)(aJ:Int)(bd bf)(bi:Nat)(bx)(b1:Nat)(w_:AM):=([(k,0),(l,0),(a5,a9+Wv aJ*2),(bd,0),(bf,bi+Wv aJ*1),(bx,b1+(IntKind.i64.wrap (((w_.lH.lB.length:Nat):Int)+aJ):Int).toNat*1)]:Bh)
abbrev UP (k l ae)(af:Nat)(aM:Int)(aq aw)(ax:Nat)(ay)(az:Nat)(a0)(a1:Nat)(bp)(bs:Nat)(bw)(b0:Nat):=([(k,0),(l,0),(ae,af+Wv aM*3),(aq,0),(aw,ax+Wv aM*1),(ay,az+Wv aM*1),(a0,a1+Wv aM*1),(bp,bs+Wv aM*1),(bw,b0+Wv aM*1)]:Bh)
abbrev GF (w_:AM)(f g q)(aB:List A8)(s z)(aC:List Bj)(aa):=([tI 65 ((w_.lH.lC.length:Nat):Int),tS 64 f w_.lH.lC.length g,tS 5 q aB.length s,tS 4 z aC.length aa,tP 3 1 0,tP 2 0 0]:TM)
abbrev IG (u)(aA:List Bj)(x aM)(w_:AM)(d e m)(aD:List A8)(p):=([tS 19 u aA.length x,tI 6 aM,tI 14 aM,tI 13 ((w_.lH.lB.length:Nat):Int),tS 12 d w_.lH.lB.length e,tS 5 m aD.length p,tP 3 1 0,tP 2 0 0]:TM)
abbrev JR (aM)(w_:AM)(d e m)(aD:List A8)(p u)(aA:List Bj)(x):=([tI 14 aM,tI 13 ((w_.lH.lB.length:Nat):Int),tS 12 d w_.lH.lB.length e,tS 5 m aD.length p,tS 4 u aA.length x,tP 3 1 0,tP 2 0 0]:TM)
abbrev JS (aM)(w_:AM)(d e):=([tI 14 aM,tI 13 ((w_.lH.lB.length:Nat):Int),tS 12 d w_.lH.lB.length e,tP 3 1 0,tP 2 0 0]:TM)
abbrev Pc (q)(aB:List A8)(s a4)(eC:List Bj)(a8 aJ)(w_:AM)(f g):=([tS 85 q aB.length s,tS 4 a4 eC.length a8,tI 66 aJ,tI 65 ((w_.lH.lC.length:Nat):Int),tS 64 f w_.lH.lC.length g,tP 3 1 0,tP 2 0 0]:TM)
abbrev QR (aJ)(w_:AM)(f g q)(aB:List A8)(s):=([tI 8 aJ,tI 66 aJ,tI 65 ((w_.lH.lC.length:Nat):Int),tS 64 f w_.lH.lC.length g,tS 5 q aB.length s,tP 3 1 0,tP 2 0 0]:TM)
theorem DJ (n:Nat) {h:Ae} {w:World} (hh:Dk h w) (w_:AM) {eW:Wx} (gt:rep h w_ eW) (t_:Ap) {cI:Wx} (dF:rep h t_ cI) {r:(List Bj)×(List A8)} (H:BQ n w_ t_=some r) :
  Calls Tryz.prog 74 #[.agg eW.toArray,.agg cI.toArray] w (Dq (fun h v=>∃ v0 v1,v=.tuple #[v0,v1]∧(∃ a c,v0=.slice a r.1.length c∧A4 h a c r.1)∧(∃ a c,v1=.slice a r.2.length c∧A4 h a c r.2)) h w):=by
 obtain⟨_,_,rfl,⟨_,_,rfl,⟨au,av,rfl,ei⟩,⟨_,_,rfl,⟨_,_,rfl,rfl,rfl⟩,⟨_,_,rfl,⟨d,e,rfl,ch⟩,⟨_,_,rfl,⟨f,g,rfl,ci⟩,⟨_,_,rfl,rfl,⟨_,_,rfl,rfl,⟨_,_,rfl,rfl,rfl⟩⟩⟩⟩⟩⟩⟩,⟨_,_,rfl,⟨ag,al,rfl,cc⟩,⟨_,_,rfl,⟨ah,am,rfl,cd⟩,⟨ai,an,rfl,ce⟩⟩⟩⟩:=gt
 obtain⟨_,_,rfl,⟨aj,ao,rfl,cf⟩,⟨_,_,rfl,⟨ak,ap,rfl,cg⟩,⟨ab,ac,rfl,bo⟩⟩⟩:=dF
 refine enter 102 [.agg (CH au w_ av d e f g ag al ah am ai an),.agg (Ie aj t_ ao ak ap ab ac)] Tryz.func74 rfl rfl rfl rfl fun t hk=>?_
 have hm:=Ah.begin h w hh
 unfold BQ at H
 refine XT (Aa (wl fun K hK=>?_))
 refine wb (.agg (CH au w_ av d e f g ag al ah am ai an)) hk hm fun k i9 kw (gl:Kn 102 [(k,0)] [tP 2 0 0,tA 0 (CH au w_ av d e f g ag al ah am ai an),tA 1 (Ie aj t_ ao ak ap ab ac)] i9) hc=>hK _ _ ?_
 refine wl fun K hK=>?_
 refine wb (.agg (Ie aj t_ ao ak ap ab ac)) gl hc fun l jd ej (gu:Kn 102 [(k,0),(l,0)] [tP 3 1 0,tP 2 0 0,tA 0 (CH au w_ av d e f g ag al ah am ai an),tA 1 (Ie aj t_ ao ak ap ab ac)] jd) dg=>hK _ _ ?_
 refine Rk 2 2 [tS 5 none 0 0,tS 4 none 0 0,tP 3 1 0,tP 2 0 0] gu dg fun kh g1=>?_
 refine wf (XT (XT (Aa (Rk 0 5 [tI 14 0,tI 13 ((w_.lH.lB.length:Nat):Int),tS 12 d w_.lH.lB.length e,tS 5 none 0 0,tS 4 none 0 0,tP 3 1 0,tP 2 0 0] g1 dg fun ki g2=>?_))))
 refine wf ?_
 have hd:Ah ⟨w,h,A6⟩ h [(k,0),(l,0)] [⟨CH au w_ av d e f g ag al ah am ai an,some 94⟩,⟨Ie aj t_ ao ak ap ab ac,some 52⟩] [⟨none,0,0,141,3,[],0⟩] ej:=dg.nilRow 141 3
 have fb:Ag h ([]:List Bj) []:=Ag.nil
 have he:Ah ⟨w,h,A6⟩ h [(k,0),(l,0)] [⟨CH au w_ av d e f g ag al ah am ai an,some 94⟩,⟨Ie aj t_ ao ak ap ab ac,some 52⟩] [⟨none,0,0,141,3,[],0⟩,⟨none,0,0,146,2,[],0⟩] ej:=hd.nilRow 146 2
 have fc:Ag h ([]:List A8) []:=Ag.nil
 obtain⟨bc,d0,H⟩:=Av H
 refine A0 (fun a' w'=>∃ (b5:Ww)(b7:Nat)(ct:Wx)(b6:Ww)(b8:Nat)(cu:Wx)(dt:Array Value)(bq:Ae),a' = ⟨dt,[]⟩∧Kn 102 [(k,0),(l,0)] [tS 5 b6 bc.2.length b8,tS 4 b5 bc.1.length b7,tP 3 1 0,tP 2 0 0] dt∧Ah ⟨w,h,A6⟩ bq [(k,0),(l,0)] [⟨CH au w_ av d e f g ag al ah am ai an,some 94⟩,⟨Ie aj t_ ao ak ap ab ac,some 52⟩] [⟨b5,bc.1.length,b7,141,3,ct,0⟩,⟨b6,bc.2.length,b8,146,2,cu,0⟩] w'∧Ae.le h bq∧Ag bq bc.1 ct∧Ag bq bc.2 cu) ?_ ?_
 ·
  refine wp_block ?_
  refine Au (fun iv a' w'=>∃ (aA:List Bj)(aD:List A8)(aM:Int)(u:Ww)(x:Nat)(b3:Wx)(m:Ww)(p:Nat)(b4:Wx)(du:Array Value)(bb:Ae),a' = ⟨du,[]⟩∧Kn 102 [(k,0),(l,0)] (JR aM w_ d e m aD p u aA x) du∧Ah ⟨w,h,A6⟩ bb [(k,0),(l,0)] [⟨CH au w_ av d e f g ag al ah am ai an,some 94⟩,⟨Ie aj t_ ao ak ap ab ac,some 52⟩] [⟨u,aA.length,x,141,3,b3,0⟩,⟨m,aD.length,p,146,2,b4,0⟩] w'∧Ae.le h bb∧Ag bb aA b3∧Ag bb aD b4∧Br iv w_ t_ aA aD aM=some bc) n ?_ ?_
  ·
   exact XY ([]:List Bj) ⟨([]:List A8),0,none,0,[],none,0,[],_,_,rfl,g2.kp,he,Ae.le_refl _,fb,fc,d0⟩
  ·
   rintro dq _ k1 ⟨aA,aD,aM,u,x,b3,m,p,b4,du,bb,rfl,g3,cq,bn,d3,d4,y⟩
   clear d0
   obtain _ | dq:=dq
   ·
    rw [Br] at y; cases y
   rw [Br] at y
   replace ch:=ch.mono bn
   replace cc:=cc.mono bn
   replace cd:=cd.mono bn
   replace cf:=cf.mono bn
   replace cg:=cg.mono bn
   replace bo:=bo.mono bn
   refine XT (Aa (Rk 0 1 ((tB 15 (decide (aM<((w_.lH.lB.length:Nat):Int))))::(JR aM w_ d e m aD p u aA x)) g3 cq fun kj c8=>?_))
   refine wf (XT (wC (decide (aM<((w_.lH.lB.length:Nat):Int))) c8 (fun cx=>?_) (fun cx=>?_)))
   ·
    rw [cx,XW] at y
    refine wp_skip (XT (wp_block (XT (Aa (Rk 0 1 ((tI 16 aM)::(JR aM w_ d e m aD p u aA x)) c8 cq fun kk g4=>?_)))))
    obtain⟨bM,eU,y⟩:=Av y
    obtain⟨hs,h1,ir⟩:=Ai eU
    obtain⟨ae,af,jr,ey,ih,ff⟩:=ch.get (by decide) ir
    obtain⟨_,_,rfl,rfl,⟨_,_,rfl,rfl,rfl⟩⟩:=ih
    have eg:=cq.addPlc (b:=ae) (o:=af+Wv aM*3) (cs:=(Nz bM)) (fun j c hj=>ff j _ (Ak hj)) rfl (by kernel_rfl) (by kernel_rfl)
    refine Bl 1 (aM) rfl rfl (rfl) rfl (by decide) g4 (by rfl) (by rfl) (by rfl) ey (by rfl) hs h1 (by kernel_rfl) fun jh (g5:Kn 102 [(k,0),(l,0),(ae,af+Wv aM*3)] ((tP 17 2 0)::(tI 16 aM)::(JR aM w_ d e m aD p u aA x)) jh)=>?_
    refine Rk 2 1 ((tA 18 (Nz bM))::(tI 16 aM)::(JR aM w_ d e m aD p u aA x)) g5 eg fun kl g6=>?_
    refine wl fun K hK=>?_
    refine wa [Ws 0,Ws 0,Ws 0] g6 eg fun aq ji k2 (g7:Kn 102 [(k,0),(l,0),(ae,af+Wv aM*3),(aq,0)] ((tP 7 3 0)::(tA 18 (Nz bM))::(tI 16 aM)::(JR aM w_ d e m aD p u aA x)) ji) eh=>hK _ _ ?_
    refine Rk 4 1 ((tI 6 aM)::(tP 7 3 0)::(tA 18 (Nz bM))::(JR aM w_ d e m aD p u aA x)) g7 eh fun iw fk=>?_
    refine wl fun K hK=>?_
    refine EZ 3 0 (.agg (Nz bM)) (Nz bM) fk eh fun km fl ca=>hK _ _ ?_
    have fm:Kn 102 [(k,0),(l,0),(ae,af+Wv aM*3),(aq,0)] ((tI 6 aM)::(tP 7 3 0)::(JR aM w_ d e m aD p u aA x)) iw:=fl.kp
    refine wf (XT (Am (by kernel_rfl) ?_))
    replace ca:=ca.drew
    refine Ao [] [(k,0),(l,0),(ae,af+Wv aM*3),(aq,0)] [⟨CH au w_ av d e f g ag al ah am ai an,some 94⟩,⟨Ie aj t_ ao ak ap ab ac,some 52⟩,⟨Nz bM,none⟩,⟨Nz bM,some 87⟩] ?_
    refine Dr [0,1,2,3,4,5] (dn 5) ((tI 24 aM)::(tS 23 aj t_.tm.length ao)::(tI 21 bM.stop)::(IG u aA x aM w_ d e m aD p)) fm ca fun jt fn=>?_
    obtain⟨dU,iY,y⟩:=Av y
    obtain⟨hf,ht,ii⟩:=Ai iY
    obtain⟨aw,ax,jj,ep,h7,ez⟩:=cf.get (by decide) ii
    obtain rfl:=h7
    have c9:=ca.addPlc (b:=aw) (o:=ax+Wv aM*1) (cs:=[Ws dU]) (fun j c hj=>ez j _ (Ak hj)) rfl (by kernel_rfl) (by kernel_rfl)
    refine Az 6 (aM) [Ws dU] (fun _ _ _ _ _ h=>h) rfl rfl (rfl) rfl (by decide) (by kernel_rfl) (by kernel_rfl) fn ca.plOk (by rfl) (by rfl) (by rfl) ep (by rfl) hf ht (by kernel_rfl) fun ix (fo:Kn 102 [(k,0),(l,0),(ae,af+Wv aM*3),(aq,0),(aw,ax+Wv aM*1)] ((tP 25 4 0)::(tI 24 aM)::(tS 23 aj t_.tm.length ao)::(tI 21 bM.stop)::(IG u aA x aM w_ d e m aD p)) ix)=>?_
    refine Dr [7,8,9,10,11] (dn 11) ((tI 30 aM)::(tS 29 ag w_.acts.lD.length al)::(tI 26 dU)::(tI 21 bM.stop)::(IG u aA x aM w_ d e m aD p)) fo c9 fun ju fp=>?_
    obtain⟨aV,fP,y⟩:=Av y
    obtain⟨hg,hu,ij⟩:=Ai fP
    obtain⟨ay,az,jk,er,h8,e0⟩:=cc.get (by decide) ij
    obtain rfl:=h8
    have da:=c9.addPlc (b:=ay) (o:=az+Wv aM*1) (cs:=[Ws aV]) (fun j c hj=>e0 j _ (Ak hj)) rfl (by kernel_rfl) (by kernel_rfl)
    refine Az 12 (aM) [Ws aV] (fun _ _ _ _ _ h=>h) rfl rfl (rfl) rfl (by decide) (by kernel_rfl) (by kernel_rfl) fp c9.plOk (by rfl) (by rfl) (by rfl) er (by rfl) hg hu (by kernel_rfl) fun iy (fq:Kn 102 [(k,0),(l,0),(ae,af+Wv aM*3),(aq,0),(aw,ax+Wv aM*1),(ay,az+Wv aM*1)] ((tP 31 5 0)::(tI 30 aM)::(tS 29 ag w_.acts.lD.length al)::(tI 26 dU)::(tI 21 bM.stop)::(IG u aA x aM w_ d e m aD p)) iy)=>?_
    refine Dr [13,14,15,16,17,18,19,20,21,22] (dn 22) ((tI 41 aM)::(tS 40 ah w_.acts.lE.length am)::(tI 37 (IntKind.i64.wrap (dU+(IntKind.i64.wrap (aV*w_.lH.lI)))))::(tI 21 bM.stop)::(IG u aA x aM w_ d e m aD p)) fq da fun jv fs=>?_
    obtain⟨cK,iW,y⟩:=Av y
    obtain⟨hl,hv,ik⟩:=Ai iW
    obtain⟨a0,a1,jl,es,h9,e1⟩:=cd.get (by decide) ik
    obtain rfl:=h9
    have d7:=da.addPlc (b:=a0) (o:=a1+Wv aM*1) (cs:=[Ws cK]) (fun j c hj=>e1 j _ (Ak hj)) rfl (by kernel_rfl) (by kernel_rfl)
    refine Az 23 (aM) [Ws cK] (fun _ _ _ _ _ h=>h) rfl rfl (rfl) rfl (by decide) (by kernel_rfl) (by kernel_rfl) fs da.plOk (by rfl) (by rfl) (by rfl) es (by rfl) hl hv (by kernel_rfl) fun iz (ft:Kn 102 (Tk k l ae af aM aq aw ax ay az a0 a1) ((tP 42 6 0)::(tI 41 aM)::(tS 40 ah w_.acts.lE.length am)::(tI 37 (IntKind.i64.wrap (dU+(IntKind.i64.wrap (aV*w_.lH.lI)))))::(tI 21 bM.stop)::(IG u aA x aM w_ d e m aD p)) iz)=>?_
    refine Dr [24,25] (dn 25) ((tA 44 (Tj bM dU aV w_ cK))::(IG u aA x aM w_ d e m aD p)) ft d7 fun jw fu=>?_
    refine Dl 26 fun K hK=>?_
    refine wS 141 3 (Tj bM dU aV w_ cK) fu d7 fun dv i0 kn (fv:Kn 102 (Tk k l ae af aM aq aw ax ay az a0 a1) ((tS 45 dv 1 1)::(tA 44 (Tj bM dU aV w_ cK))::(IG u aA x aM w_ d e m aD p)) i0) db=>?_
    have cy:Ag bb ([Bj.mk bM.stop (IntKind.i64.wrap (dU+(IntKind.i64.wrap (aV*w_.lH.lI)))) cK]:List Bj) ([.int .i64 bM.stop,.int .i64 (IntKind.i64.wrap (dU+(IntKind.i64.wrap (aV*w_.lH.lI)))),.int .i64 cK]:Wx):=⟨_,_,rfl,((Ab Ac (Ab Ac Ac)):rep bb ((Bj.mk bM.stop (IntKind.i64.wrap (dU+(IntKind.i64.wrap (aV*w_.lH.lI)))) cK):Bj) _),rfl⟩
    refine hK _ _ db.plOk ?_
    obtain⟨fB,ex46,y⟩:=Av y
    obtain⟨dk,g8⟩:=Bb ex46
    refine Dl 27 fun K hK=>?_
    refine AD 0 24 1 _ (fB.length) _ ([.int .i64 bM.stop,.int .i64 (IntKind.i64.wrap (dU+(IntKind.i64.wrap (aV*w_.lH.lI)))),.int .i64 cK]:Wx) fv db rfl rfl (by decide) rfl (by rfl) (by kernel_rfl) (by rfl) (by rfl) (Ag.len cy) (db.rowCell (i:=2) rfl) cy.one (by rw [dk]; simp <;> omega) (by rw [dk]; exact g8) (by decide) fun a2 a6 el i1 ko fg (fw:Kn 102 (Tk k l ae af aM aq aw ax ay az a0 a1) ((tS 46 a2 fB.length a6)::(tS 45 dv 1 1)::(tA 44 (Tj bM dU aV w_ cK))::(IG u aA x aM w_ d e m aD p)) i1) br=>?_
    have e2:Ag bb fB (b3++([.int .i64 bM.stop,.int .i64 (IntKind.i64.wrap (dU+(IntKind.i64.wrap (aV*w_.lH.lI)))),.int .i64 cK]:Wx)):=by rw [dk]; exact Ag.append d3 cy
    obtain rfl:el=0:=Nat.le_zero.1 fg
    refine hK _ _ br.plOk ?_
    refine Dr [28] (dn 28) [tS 4 a2 fB.length a6,tI 6 aM,tI 14 aM,tI 13 ((w_.lH.lB.length:Nat):Int),tS 12 d w_.lH.lB.length e,tS 5 m aD.length p,tP 3 1 0,tP 2 0 0] fw br fun jx fx=>?_
    refine A2 (by kernel_rfl) (Am (by kernel_rfl) ?_)
    replace br:=br.drew
    refine Ao [] (Tk k l ae af aM aq aw ax ay az a0 a1) [⟨CH au w_ av d e f g ag al ah am ai an,some 94⟩,⟨Ie aj t_ ao ak ap ab ac,some 52⟩,⟨Nz bM,none⟩,⟨Nz bM,some 87⟩,⟨[Ws dU],none⟩,⟨[Ws aV],none⟩,⟨[Ws cK],none⟩] ?_
    refine Dr [0,1,2,3] (dn 3) ((tI 50 aM)::(tS 49 ab t_.lA.length ac)::(tS 47 m aD.length p)::(tS 4 a2 fB.length a6)::(tI 6 aM)::(JS aM w_ d e)) fx br fun jy fy=>?_
    obtain⟨fK,kW,y⟩:=Av y
    obtain⟨hn,hw,il⟩:=Ai kW
    obtain⟨bp,bs,jm,et,ia,e3⟩:=bo.get (by decide) il
    obtain⟨a3,a7,rfl,h2⟩:=ia
    have dc:=br.addPlc (b:=bp) (o:=bs+Wv aM*1) (cs:=[Wu a3 fK.length a7]) (fun j c hj=>e3 j _ (Ak hj)) rfl (by kernel_rfl) (by kernel_rfl)
    refine Az 4 (aM) [Wu a3 fK.length a7] (fun _ _ _ _ _ h=>h) rfl rfl (rfl) rfl (by decide) (by kernel_rfl) (by kernel_rfl) fy br.plOk (by rfl) (by rfl) (by rfl) et (by rfl) hn hw (by kernel_rfl) fun i2 (fz:Kn 102 [(k,0),(l,0),(ae,af+Wv aM*3),(aq,0),(aw,ax+Wv aM*1),(ay,az+Wv aM*1),(a0,a1+Wv aM*1),(bp,bs+Wv aM*1)] ((tP 51 7 0)::(tI 50 aM)::(tS 49 ab t_.lA.length ac)::(tS 47 m aD.length p)::(tS 4 a2 fB.length a6)::(tI 6 aM)::(JS aM w_ d e)) i2)=>?_
    refine Dr [5,6,7,8] (dn 8) ((tI 55 aM)::(tS 54 ak t_.lE.length ap)::(tS 52 a3 fK.length a7)::(tS 47 m aD.length p)::(tS 4 a2 fB.length a6)::(JS aM w_ d e)) fz dc fun jz f0=>?_
    obtain⟨dO,kK,y⟩:=Av y
    obtain⟨ho,hx,im⟩:=Ai kK
    obtain⟨bw,b0,jn,eu,ib,e4⟩:=cg.get (by decide) im
    obtain rfl:=ib
    have d8:=dc.addPlc (b:=bw) (o:=b0+Wv aM*1) (cs:=[Ws dO]) (fun j c hj=>e4 j _ (Ak hj)) rfl (by kernel_rfl) (by kernel_rfl)
    refine Az 9 (aM) [Ws dO] (fun _ _ _ _ _ h=>h) rfl rfl (rfl) rfl (by decide) (by kernel_rfl) (by kernel_rfl) f0 dc.plOk (by rfl) (by rfl) (by rfl) eu (by rfl) ho hx (by kernel_rfl) fun i3 (f1:Kn 102 (UP k l ae af aM aq aw ax ay az a0 a1 bp bs bw b0) ((tP 56 8 0)::(tI 55 aM)::(tS 54 ak t_.lE.length ap)::(tS 52 a3 fK.length a7)::(tS 47 m aD.length p)::(tS 4 a2 fB.length a6)::(JS aM w_ d e)) i3)=>?_
    refine Dr [10,11] (dn 11) ((tA 58 [Wu a3 fK.length a7,Ws dO])::(tS 47 m aD.length p)::(tS 4 a2 fB.length a6)::(JS aM w_ d e)) f1 d8 fun j0 f2=>?_
    refine Dl 12 fun K hK=>?_
    refine wS 146 2 [Wu a3 fK.length a7,Ws dO] f2 d8 fun dw i4 kq (f3:Kn 102 (UP k l ae af aM aq aw ax ay az a0 a1 bp bs bw b0) ((tS 59 dw 1 1)::(tA 58 [Wu a3 fK.length a7,Ws dO])::(tS 47 m aD.length p)::(tS 4 a2 fB.length a6)::(JS aM w_ d e)) i4) dd=>?_
    have cz:Ag bb ([A8.mk fK dO]:List A8) ([.slice a3 fK.length a7,.int .i64 dO]:Wx):=⟨_,_,rfl,((Ab (Ad h2) Ac):rep bb ((A8.mk fK dO):A8) _),rfl⟩
    refine hK _ _ dd.plOk ?_
    obtain⟨dJ,ex60,y⟩:=Av y
    obtain⟨dl,g9⟩:=Bb ex60
    refine Dl 13 fun K hK=>?_
    refine AD 1 32 1 _ (dJ.length) _ ([.slice a3 fK.length a7,.int .i64 dO]:Wx) f3 dd rfl rfl (by decide) rfl (by rfl) (by kernel_rfl) (by rfl) (by rfl) (Ag.len cz) (dd.rowCell (i:=3) rfl) cz.one (by rw [dl]; simp <;> omega) (by rw [dl]; exact g9) (by decide) fun cj cl em i5 kr fh (f4:Kn 102 (UP k l ae af aM aq aw ax ay az a0 a1 bp bs bw b0) ((tS 60 cj dJ.length cl)::(tS 59 dw 1 1)::(tA 58 [Wu a3 fK.length a7,Ws dO])::(tS 47 m aD.length p)::(tS 4 a2 fB.length a6)::(JS aM w_ d e)) i5) cn=>?_
    have e5:Ag bb dJ (b4++([.slice a3 fK.length a7,.int .i64 dO]:Wx)):=by rw [dl]; exact Ag.append d4 cz
    obtain rfl:em=0:=Nat.le_zero.1 fh
    refine hK _ _ cn.plOk ?_
    refine Dr [14] (dn 14) ((tS 5 cj dJ.length cl)::(tS 4 a2 fB.length a6)::(JS aM w_ d e)) f4 cn fun j1 f5=>?_
    refine A2 (by kernel_rfl) (Aa (Rk 0 2 [tI 14 (IntKind.i64.wrap (aM+1)),tS 5 cj dJ.length cl,tS 4 a2 fB.length a6,tI 13 ((w_.lH.lB.length:Nat):Int),tS 12 d w_.lH.lB.length e,tP 3 1 0,tP 2 0 0] f5 cn fun j2 f6=>?_))
    refine wf ?_
    exact XY dq ⟨Xc _,XY fB ⟨dJ,IntKind.i64.wrap (aM+1),a2,a6,b3++([.int .i64 bM.stop,.int .i64 (IntKind.i64.wrap (dU+(IntKind.i64.wrap (aV*w_.lH.lI)))),.int .i64 cK]:Wx),cj,cl,b4++([.slice a3 fK.length a7,.int .i64 dO]:Wx),_,_,rfl,(f6.keep [14,13,12,5,4,3,2] (by rfl)).cut 2 (by kernel_rfl),(cn.cutRw 2).cutPl 2 (by kernel_rfl),bn,e2,e5,y⟩⟩
   ·
    rw [cx,XV] at y
    refine wp_exit ?_
    obtain rfl:=XZ y
    exact XY u ⟨x,b3,m,p,b4,_,_,rfl,c8.kp,cq,bn,d3,d4⟩
 ·
  rintro _ ks ⟨b5,b7,ct,b6,b8,cu,dt,bq,rfl,f7,d9,bh,fd,fe⟩
  replace ei:=ei.mono bh
  replace ch:=ch.mono bh
  replace ci:=ci.mono bh
  replace cc:=cc.mono bh
  replace cd:=cd.mono bh
  replace ce:=ce.mono bh
  replace cf:=cf.mono bh
  replace cg:=cg.mono bh
  replace bo:=bo.mono bh
  refine XT (XT (Aa (Rk 0 5 [tI 66 0,tI 65 ((w_.lH.lC.length:Nat):Int),tS 64 f w_.lH.lC.length g,tS 5 b6 bc.2.length b8,tS 4 b5 bc.1.length b7,tP 3 1 0,tP 2 0 0] f7 d9 fun j3 f8=>?_)))
  refine wf ?_
  obtain⟨ar,dz,H⟩:=Av H
  refine A0 (fun a' w'=>∃ (bj:Ww)(bl:Nat)(bv:Wx)(bk:Ww)(bm:Nat)(b2:Wx)(dr:Array Value)(b9:Ae),a' = ⟨dr,[]⟩∧Kn 102 [(k,0),(l,0)] [tS 5 bk ar.2.length bm,tS 4 bj ar.1.length bl] dr∧Ah ⟨w,h,A6⟩ b9 [(k,0),(l,0)] [⟨CH au w_ av d e f g ag al ah am ai an,some 94⟩,⟨Ie aj t_ ao ak ap ab ac,some 52⟩] [⟨bj,ar.1.length,bl,141,3,bv,0⟩,⟨bk,ar.2.length,bm,146,2,b2,0⟩] w'∧Ae.le bq b9∧Ag b9 ar.1 bv∧Ag b9 ar.2 b2) ?_ ?_
  ·
   refine wp_block ?_
   refine Au (fun iu a' w'=>∃ (aC:List Bj)(aB:List A8)(aJ:Int)(z:Ww)(aa:Nat)(bt:Wx)(q:Ww)(s:Nat)(bu:Wx)(ds:Array Value)(ba:Ae),a' = ⟨ds,[]⟩∧Kn 102 [(k,0),(l,0)] ((tI 66 aJ)::(GF w_ f g q aB s z aC aa)) ds∧Ah ⟨w,h,A6⟩ ba [(k,0),(l,0)] [⟨CH au w_ av d e f g ag al ah am ai an,some 94⟩,⟨Ie aj t_ ao ak ap ab ac,some 52⟩] [⟨z,aC.length,aa,141,3,bt,0⟩,⟨q,aB.length,s,146,2,bu,0⟩] w'∧Ae.le bq ba∧Ag ba aC bt∧Ag ba aB bu∧Bg iu w_ t_ aC aB aJ=some ar) n ?_ ?_
   ·
    exact XY bc.1 ⟨bc.2,0,b5,b7,ct,b6,b8,cu,_,_,rfl,f8.kp,d9,Ae.le_refl _,fd,fe,dz⟩
   ·
    rintro cr _ kt ⟨aC,aB,aJ,z,aa,bt,q,s,bu,ds,ba,rfl,f9,co,bz,c0,c1,ad⟩
    clear dz
    obtain _ | cr:=cr
    ·
     rw [Bg] at ad; cases ad
    rw [Bg] at ad
    replace ci:=ci.mono bz
    replace ce:=ce.mono bz
    replace bo:=bo.mono bz
    refine XT (Aa (Rk 0 1 ((tB 67 (decide (aJ<((w_.lH.lC.length:Nat):Int))))::(tI 66 aJ)::(GF w_ f g q aB s z aC aa)) f9 co fun j4 c6=>?_))
    refine wf (XT (wC (decide (aJ<((w_.lH.lC.length:Nat):Int))) c6 (fun cv=>?_) (fun cv=>?_)))
    ·
     rw [cv,XW] at ad
     refine wp_skip (XT (wp_block (XT (Aa (Rk 0 1 ((tI 68 aJ)::(tI 66 aJ)::(GF w_ f g q aB s z aC aa)) c6 co fun j5 ga=>?_)))))
     obtain⟨dQ,kT,ad⟩:=Av ad
     obtain⟨hp,hy,io⟩:=Ai kT
     obtain⟨a5,a9,jo,ev,ic,e6⟩:=ci.get (by decide) io
     obtain⟨_,_,rfl,rfl,rfl⟩:=ic
     have ea:=co.addPlc (b:=a5) (o:=a9+Wv aJ*2) (cs:=(Qf dQ)) (fun j c hj=>e6 j _ (Ak hj)) rfl (by kernel_rfl) (by kernel_rfl)
     refine Bl 1 (aJ) rfl rfl (rfl) rfl (by decide) ga (by rfl) (by rfl) (by rfl) ev (by rfl) hp hy (by kernel_rfl) fun i6 (gb:Kn 102 [(k,0),(l,0),(a5,a9+Wv aJ*2)] ((tP 69 2 0)::(tI 68 aJ)::(tI 66 aJ)::(GF w_ f g q aB s z aC aa)) i6)=>?_
     refine Rk 2 1 ((tA 70 (Qf dQ))::(tI 68 aJ)::(tI 66 aJ)::(GF w_ f g q aB s z aC aa)) gb ea fun j6 gc=>?_
     refine wl fun K hK=>?_
     refine wa [Ws 0,Ws 0] gc ea fun bd i7 ku (gd:Kn 102 [(k,0),(l,0),(a5,a9+Wv aJ*2),(bd,0)] ((tP 9 3 0)::(tA 70 (Qf dQ))::(tI 68 aJ)::(tI 66 aJ)::(GF w_ f g q aB s z aC aa)) i7) eb=>hK _ _ ?_
     refine Rk 4 1 ((tI 8 aJ)::(tP 9 3 0)::(tA 70 (Qf dQ))::(tI 66 aJ)::(GF w_ f g q aB s z aC aa)) gd eb fun i8 gf=>?_
     refine wl fun K hK=>?_
     refine EZ 3 0 (.agg (Qf dQ)) (Qf dQ) gf eb fun kv gg ec=>hK _ _ ?_
     have gh:Kn 102 [(k,0),(l,0),(a5,a9+Wv aJ*2),(bd,0)] ((tI 8 aJ)::(tP 9 3 0)::(tI 66 aJ)::(GF w_ f g q aB s z aC aa)) i8:=gg.kp
     refine wf (XT (Aa (Rk 0 4 ((tI 74 aJ)::(tS 73 ai w_.acts.lC.length an)::(tI 8 aJ)::(tP 9 3 0)::(tI 66 aJ)::(GF w_ f g q aB s z aC aa)) gh ec fun j7 gi=>?_)))
     obtain⟨dH,gV,ad⟩:=Av ad
     obtain⟨hq,hz,ip⟩:=Ai gV
     obtain⟨bf,bi,jp,ew,ie,e7⟩:=ce.get (by decide) ip
     obtain rfl:=ie
     have cb:=ec.addPlc (b:=bf) (o:=bi+Wv aJ*1) (cs:=[.bool dH]) (fun j c hj=>e7 j _ (Ak hj)) rfl (by kernel_rfl) (by kernel_rfl)
     refine Bl 4 (aJ) rfl rfl (rfl) rfl (by decide) gi (by rfl) (by rfl) (by rfl) ew (by rfl) hq hz (by kernel_rfl) fun ja (gj:Kn 102 [(k,0),(l,0),(a5,a9+Wv aJ*2),(bd,0),(bf,bi+Wv aJ*1)] ((tP 75 4 0)::(tI 74 aJ)::(tS 73 ai w_.acts.lC.length an)::(tI 8 aJ)::(tP 9 3 0)::(tI 66 aJ)::(GF w_ f g q aB s z aC aa)) ja)=>?_
     refine Rk 5 1 ((tB 76 dH)::(tI 8 aJ)::(tP 9 3 0)::(tI 66 aJ)::(GF w_ f g q aB s z aC aa)) gj cb fun j8 c7=>?_
     refine wf (wC (dH) c7 (fun cw=>?_) (fun cw=>?_))
     ·
      rw [cw,XW] at ad
      refine XT (Aa (Rk 0 6 ((tA 82 (Ti dQ))::(tS 77 z aC.length aa)::(QR aJ w_ f g q aB s)) c7 cb fun j9 gk=>?_))
      refine wl fun K hK=>?_
      refine wS 141 3 (Ti dQ) gk cb fun dx jb kx (gm:Kn 102 [(k,0),(l,0),(a5,a9+Wv aJ*2),(bd,0),(bf,bi+Wv aJ*1)] ((tS 83 dx 1 1)::(tA 82 (Ti dQ))::(tS 77 z aC.length aa)::(QR aJ w_ f g q aB s)) jb) ed=>?_
      have c4:Ag ba ([Bj.mk dQ.stop dQ.tm (-1)]:List Bj) ([.int .i64 dQ.stop,.int .i64 dQ.tm,.int .i64 (-1)]:Wx):=⟨_,_,rfl,((Ab Ac (Ab Ac Ac)):rep ba ((Bj.mk dQ.stop dQ.tm (-1)):Bj) _),rfl⟩
      refine hK _ _ ?_
      obtain⟨eC,ex84,ad⟩:=Av ad
      obtain⟨dm,ha⟩:=Bb ex84
      refine wl fun K hK=>?_
      refine AD 0 24 1 _ (eC.length) _ ([.int .i64 dQ.stop,.int .i64 dQ.tm,.int .i64 (-1)]:Wx) gm ed rfl rfl (by decide) rfl (by rfl) (by kernel_rfl) (by rfl) (by rfl) (Ag.len c4) (ed.rowCell (i:=2) rfl) c4.one (by rw [dm]; simp <;> omega) (by rw [dm]; exact ha) (by decide) fun a4 a8 en jc ky fi (gn:Kn 102 [(k,0),(l,0),(a5,a9+(aJ:Int).toNat*2),(bd,0),(bf,bi+(aJ:Int).toNat*1)] ((tS 84 a4 eC.length a8)::(tS 83 dx 1 1)::(tA 82 (Ti dQ))::(tS 77 z aC.length aa)::(QR aJ w_ f g q aB s)) jc) de=>?_
      have e8:Ag ba eC (bt++([.int .i64 dQ.stop,.int .i64 dQ.tm,.int .i64 (-1)]:Wx)):=by rw [dm]; exact Ag.append c0 c4
      obtain rfl:en=0:=Nat.le_zero.1 fi
      refine hK _ _ ?_
      refine Rk 8 1 ((tS 4 a4 eC.length a8)::(QR aJ w_ f g q aB s)) gn de fun ka go=>?_
      refine wf (Aa (Rk 0 9 ((tI 93 (IntKind.i64.wrap (((w_.lH.lB.length:Nat):Int)+aJ)))::(tS 87 ab t_.lA.length ac)::(Pc q aB s a4 eC a8 aJ w_ f g)) go de fun kb gp=>?_))
      obtain⟨cC,ex94,ad⟩:=Av ad
      obtain⟨hr,h0,iq⟩:=Ai ex94
      obtain⟨bx,b1,jq,ex,ig,e9⟩:=bo.get (by decide) iq
      obtain⟨be,bg,rfl,h3⟩:=ig
      have ee:=de.addPlc (b:=bx) (o:=b1+(IntKind.i64.wrap (((w_.lH.lB.length:Nat):Int)+aJ):Int).toNat*1) (cs:=[Wu be cC.length bg]) (fun j c hj=>e9 j _ (Ak hj)) rfl (by kernel_rfl) (by kernel_rfl)
      refine Bl 9 (IntKind.i64.wrap (((w_.lH.lB.length:Nat):Int)+aJ)) rfl rfl (rfl) rfl (by decide) gp (by rfl) (by rfl) (by rfl) ex (by rfl) hr h0 (by kernel_rfl) fun je (gq:Kn 102 (UO k l a5 a9 aJ bd bf bi bx b1 w_) ((tP 94 5 0)::(tI 93 (IntKind.i64.wrap (((w_.lH.lB.length:Nat):Int)+aJ)))::(tS 87 ab t_.lA.length ac)::(Pc q aB s a4 eC a8 aJ w_ f g)) je)=>?_
      refine Rk 10 2 ((tA 96 [Wu be cC.length bg,Ws 0])::(Pc q aB s a4 eC a8 aJ w_ f g)) gq ee fun kc gr=>?_
      refine wl fun K hK=>?_
      refine wS 146 2 [Wu be cC.length bg,Ws 0] gr ee fun dy jf kz (gs:Kn 102 (UO k l a5 a9 aJ bd bf bi bx b1 w_) ((tS 97 dy 1 1)::(tA 96 [Wu be cC.length bg,Ws 0])::(Pc q aB s a4 eC a8 aJ w_ f g)) jf) ef=>?_
      have c5:Ag ba ([A8.mk cC 0]:List A8) ([.slice be cC.length bg,.int .i64 0]:Wx):=⟨_,_,rfl,((Ab (Ad h3) Ac):rep ba ((A8.mk cC 0):A8) _),rfl⟩
      refine hK _ _ ?_
      obtain⟨x98,ex98,ad⟩:=Av ad
      obtain⟨dp,hb⟩:=Bb ex98
      refine wl fun K hK=>?_
      refine AD 1 32 1 _ (x98.length) _ ([.slice be cC.length bg,.int .i64 0]:Wx) gs ef rfl rfl (by decide) rfl (by rfl) (by kernel_rfl) (by rfl) (by rfl) (Ag.len c5) (ef.rowCell (i:=3) rfl) c5.one (by rw [dp]; simp <;> omega) (by rw [dp]; exact hb) (by decide) fun ck cm eo jg k0 fj (gv:Kn 102 (UO k l a5 a9 aJ bd bf bi bx b1 w_) ((tS 98 ck x98.length cm)::(tS 97 dy 1 1)::(tA 96 [Wu be cC.length bg,Ws 0])::(Pc q aB s a4 eC a8 aJ w_ f g)) jg) df=>?_
      have fa:Ag ba x98 (bu++([.slice be cC.length bg,.int .i64 0]:Wx)):=by rw [dp]; exact Ag.append c1 c5
      obtain rfl:eo=0:=Nat.le_zero.1 fj
      refine hK _ _ ?_
      refine Rk 14 1 [tS 5 ck x98.length cm,tS 4 a4 eC.length a8,tI 66 aJ,tI 65 ((w_.lH.lC.length:Nat):Int),tS 64 f w_.lH.lC.length g,tP 3 1 0,tP 2 0 0] gv df fun kd gw=>?_
      refine wf (Aa (Rk 0 2 [tI 66 (IntKind.i64.wrap (aJ+1)),tS 5 ck x98.length cm,tS 4 a4 eC.length a8,tI 65 ((w_.lH.lC.length:Nat):Int),tS 64 f w_.lH.lC.length g,tP 3 1 0,tP 2 0 0] gw df fun ke gx=>?_))
      refine wf ?_
      exact XY cr ⟨Xc _,XY eC ⟨x98,IntKind.i64.wrap (aJ+1),a4,a8,bt++([.int .i64 dQ.stop,.int .i64 dQ.tm,.int .i64 (-1)]:Wx),ck,cm,bu++([.slice be cC.length bg,.int .i64 0]:Wx),_,_,rfl,(gx.keep [66,65,64,5,4,3,2] (by rfl)).cut 2 (by kernel_rfl),(df.cutRw 2).cutPl 2 (by kernel_rfl),bz,e8,fa,ad⟩⟩
     ·
      rw [cw,XV] at ad
      refine wp_skip (Aa (Rk 0 2 ((tI 66 (IntKind.i64.wrap (aJ+1)))::(GF w_ f g q aB s z aC aa)) c7 cb fun kf gy=>?_))
      refine wf ?_
      exact XY cr ⟨Xc _,XY aC ⟨aB,IntKind.i64.wrap (aJ+1),z,aa,bt,q,s,bu,_,_,rfl,(gy.keep [66,65,64,5,4,3,2] (by rfl)).cut 2 (by kernel_rfl),cb.cutPl 2 (by kernel_rfl),bz,c0,c1,ad⟩⟩
    ·
     rw [cv,XV] at ad
     refine wp_exit ?_
     obtain rfl:=XZ ad
     exact XY z ⟨aa,bt,q,s,bu,_,_,rfl,c6.kp,co,bz,c0,c1⟩
  ·
   rintro _ ek ⟨bj,bl,bv,bk,bm,b2,dr,b9,rfl,gz,dh,js,c2,c3⟩
   refine XT (Aa (Rk 0 4 [tS 5 bk ar.2.length bm,tS 4 bj ar.1.length bl] gz dh fun kg g0=>?_))
   refine wf (wp_ret ?_)
   obtain⟨d1,d5,h5,cp⟩:=dh.settle (i:=0) rfl
   replace c2:=c2.mono d5
   replace cp:Ah ⟨w,h,A6⟩ d1 [(k,0),(l,0)] [⟨CH au w_ av d e f g ag al ah am ai an,some 94⟩,⟨Ie aj t_ ao ak ap ab ac,some 52⟩] [⟨bj,ar.1.length,bl,141,3,bv,(bv:Wx).length⟩,⟨bk,ar.2.length,bm,146,2,b2,0⟩] ek:=cp
   have dj:A4 d1 bj bl ar.1:=⟨_,c2,h5,dh.rowCap (i:=0) rfl⟩
   obtain⟨d2,d6,h6,di⟩:=cp.settle (i:=1) rfl
   replace dj:=dj.mono d6
   replace c3:=c3.mono (XU d5 d6)
   replace di:Ah ⟨w,h,A6⟩ d2 [(k,0),(l,0)] [⟨CH au w_ av d e f g ag al ah am ai an,some 94⟩,⟨Ie aj t_ ao ak ap ab ac,some 52⟩] [⟨bj,ar.1.length,bl,141,3,bv,(bv:Wx).length⟩,⟨bk,ar.2.length,bm,146,2,b2,(b2:Wx).length⟩] ek:=di
   have h4:A4 d2 bk bm ar.2:=⟨_,c3,h6,cp.rowCap (i:=1) rfl⟩
   obtain rfl:=XZ H
   exact rt (.tup [.c (Wu bj ar.1.length bl),.c (Wu bk ar.2.length bm)]) g0 di ⟨_,_,rfl,⟨_,_,rfl,dj⟩,⟨_,_,rfl,h4⟩⟩
end Go.Proofs.YtokchpjijlebiaaGreat
