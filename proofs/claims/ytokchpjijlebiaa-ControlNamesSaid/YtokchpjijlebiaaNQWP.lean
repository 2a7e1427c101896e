/- Each call computes its plain function. -/
import Derived.Test.YtokchpjijlebiaaProg
import Derived.Test.YtokchpjijlebiaaNQP0
set_option linter.all false
namespace Go.Proofs.Ytokchpjijlebiaa
open Go Go.RowKit
open Rep (rep)
open KRep (kv)
open VRep (rv)
set_option maxRecDepth 100000 in
set_option maxHeartbeats 4000000 in
theorem BI (n:Nat) {h:Ad} {w:World} (hh:Dv h w) (n_:Int) (low:Int) (high:Int) {r:Bool} (H:Bt n n_ low high=some r) :
  Calls Try.prog 84 #[.int .i64 n_,.int .i64 low,.int .i64 high] w (D6 (fun h v=>v=.bool r) h w):=by
 refine enter 15 [.c (.int .i64 n_),.c (.int .i64 low),.c (.int .i64 high)] Try.func84 rfl rfl rfl rfl fun t hk=>?_
 have hm:=Ah.begin h w hh
 unfold Bt at H
 refine QT (Ab (Rk 0 1 [tI 0 n_,tI 1 low,tI 2 high] hk hm fun k f=>?_))
 refine wf (QT (Ab (Rk 0 4 [tB 10 (decide (low≤n_)),tI 0 n_,tI 2 high] f hm fun d b=>?_)))
 rcases Bool.eq_false_or_eq_true (decide (low≤n_)) with a | a
 ·
  rw [a,QW] at H
  have g:Kn 15 [] [tB 10 true,tI 0 n_,tI 2 high] d:=(b.setB 10 true (by rfl) a).kp
  refine Rk 4 5 [tB 6 (decide (n_≤high))] g hm fun m i=>?_
  refine wf (wp_ret ?_)
  obtain rfl:=QZ H
  exact rt (.one (.c (.bool (decide (n_≤high))))) i hm rfl
 ·
  rw [a,QV] at H
  have j:Kn 15 [] [tB 10 false,tI 0 n_,tI 2 high] d:=(b.setB 10 false (by rfl) a).kp
  refine Rk 4 5 [tB 6 false] j hm fun l e=>?_
  refine wf (wp_ret ?_)
  obtain rfl:=QZ H
  exact rt (.one (.c (.bool false))) e hm rfl
set_option maxRecDepth 100000 in
set_option maxHeartbeats 4000000 in
theorem D7 (n:Nat) {h:Ad} {w:World} (hh:Dv h w) (n_:Int) {r:Bool} (H:Da n n_=some r) :
  Calls Try.prog 78 #[.int .i64 n_] w (D6 (fun h v=>v=.bool r) h w):=by
 refine enter 5 [.c (.int .i64 n_)] Try.func78 rfl rfl rfl rfl fun t hk=>?_
 have hm:=Ah.begin h w hh
 unfold Da at H
 refine QT (Ab (Rk 0 1 [tI 0 n_] hk hm fun l f=>?_))
 refine wf (QT (Ab (Rk 0 1 [tI 3 n_] f hm fun o g=>?_)))
 obtain⟨x4,ex4,H⟩:=A3 H
 refine wl fun K hK=>?_
 refine wc [.c (.int .i64 n_),.c (.int .i64 0),.c (.int .i64 2000)] g hm (BI n hm.has n_ 0 2000 ex4) fun p j q b k a=>?_
 obtain rfl:=b
 refine⟨.one (.c (.bool x4)),rfl,fun i (d:Kn 5 [] [tB 4 x4,tI 3 n_] i)=>hK _ _ ?_⟩
 refine Rk 2 1 [tB 2 x4] d a fun m e=>?_
 refine wf (wp_ret ?_)
 obtain rfl:=QZ H
 exact rt (.one (.c (.bool x4))) e a rfl
abbrev ON (a:Option Addr) (r_:Ag) (e:Nat) (b:Option Addr) (f:Nat) (d:Option Addr) (g:Nat):List SC:=[.slice a r_.legs.length e,.int .i64 r_.turn.lo,.int .i64 r_.turn.hi,.slice b r_.buses.length f,.slice d r_.spares.length g,.int .i64 r_.unit,.int .i64 r_.gap,.int .i64 r_.fr,.int .i64 r_.to_]
set_option maxRecDepth 100000 in
set_option maxHeartbeats 4000000 in
theorem BJ (n:Nat) {h:Ad} {w:World} (hh:Dv h w) (r_:Ag) {cs_r_:List Value} (hx_r_:rep h r_ cs_r_) {r:Int} (H:Bp n r_=some r) :
  Calls Try.prog 92 #[.agg cs_r_.toArray] w (D6 (fun h v=>v=.int .i64 r) h w):=by
 obtain⟨_,_,rfl,⟨a,e,rfl,p⟩,⟨_,_,rfl,⟨_,_,rfl,rfl,rfl⟩,⟨_,_,rfl,⟨b,f,rfl,q⟩,⟨_,_,rfl,⟨d,g,rfl,s⟩,⟨_,_,rfl,rfl,⟨_,_,rfl,rfl,⟨_,_,rfl,rfl,rfl⟩⟩⟩⟩⟩⟩⟩:=hx_r_
 refine enter 7 [.agg (ON a r_ e b f d g)] Try.func92 rfl rfl rfl rfl fun t hk=>?_
 have hm:=Ah.begin h w hh
 unfold Bp at H
 refine QT (Ab (wl fun K hK=>?_))
 refine wb (.agg (ON a r_ e b f d g)) hk hm fun j o y (k:Kn 7 [(j,0)] [tP 1 0 0,tA 0 (ON a r_ e b f d g)] o) i=>hK _ _ ?_
 refine Rk 1 1 [tP 1 0 0] k i fun u l=>?_
 refine wf (QT (Ab (Rk 0 5 [tI 2 (IntKind.i64.wrap (((r_.legs.length:Nat):Int)+1))] l i fun x m=>?_)))
 refine wf (wp_ret ?_)
 obtain rfl:=QZ H
 exact rt (.one (.c (.int .i64 (IntKind.i64.wrap (((r_.legs.length:Nat):Int)+1))))) m i rfl
abbrev L0 (a:Option Addr) (r_:Ag) (e:Nat) (b:Option Addr) (f:Nat) (d:Option Addr) (g:Nat):List SC:=[.slice a r_.legs.length e,.int .i64 r_.turn.lo,.int .i64 r_.turn.hi,.slice b r_.buses.length f,.slice d r_.spares.length g,.int .i64 r_.unit,.int .i64 r_.gap,.int .i64 r_.fr,.int .i64 r_.to_]
set_option maxRecDepth 100000 in
set_option maxHeartbeats 4000000 in
theorem De (n:Nat) {h:Ad} {w:World} (hh:Dv h w) (r_:Ag) {cs_r_:List Value} (hx_r_:rep h r_ cs_r_) {r:Int} (H:Cg n r_=some r) :
  Calls Try.prog 79 #[.agg cs_r_.toArray] w (D6 (fun h v=>v=.int .i64 r) h w):=by
 obtain⟨_,_,rfl,⟨a,e,rfl,u⟩,⟨_,_,rfl,⟨_,_,rfl,rfl,rfl⟩,⟨_,_,rfl,⟨b,f,rfl,x⟩,⟨_,_,rfl,⟨d,g,rfl,y⟩,⟨_,_,rfl,rfl,⟨_,_,rfl,rfl,⟨_,_,rfl,rfl,rfl⟩⟩⟩⟩⟩⟩⟩:=hx_r_
 refine enter 6 [.agg (L0 a r_ e b f d g)] Try.func79 rfl rfl rfl rfl fun t hk=>?_
 have hm:=Ah.begin h w hh
 unfold Cg at H
 refine QT (Ab (wl fun K hK=>?_))
 refine wb (.agg (L0 a r_ e b f d g)) hk hm fun j z ah (m:Kn 6 [(j,0)] [tP 1 0 0,tA 0 (L0 a r_ e b f d g)] z) i=>hK _ _ ?_
 refine Rk 1 1 [tP 1 0 0] m i fun ad o=>?_
 refine wf (QT (Ab (Rk 0 1 [tA 3 (L0 a r_ e b f d g)] o i fun ae p=>?_)))
 obtain⟨x4,ex4,H⟩:=A3 H
 refine wl fun K hK=>?_
 refine wc [.agg (L0 a r_ e b f d g)] p i (BJ n i.has r_ ((Aa (Ae u) (Aa (Aa Ac Ac) (Aa (Ae x) (Aa (Ae y) (Aa Ac (Aa Ac (Aa Ac Ac))))))):rep h r_ _) ex4) fun ag ab ai l ac k=>?_
 obtain rfl:=l
 refine⟨.one (.c (.int .i64 x4)),rfl,fun aa (q:Kn 6 [(j,0)] [tI 4 x4,tA 3 (L0 a r_ e b f d g)] aa)=>hK _ _ ?_⟩
 refine Rk 2 2 [tI 2 (IntKind.i64.wrap (Int.tdiv x4 2))] q k fun af s=>?_
 refine wf (wp_ret ?_)
 obtain rfl:=QZ H
 exact rt (.one (.c (.int .i64 (IntKind.i64.wrap (Int.tdiv x4 2))))) s k rfl
abbrev L3 (a:Option Addr) (r_:Ag) (e:Nat) (b:Option Addr) (f:Nat) (d:Option Addr) (g:Nat):List SC:=[.slice a r_.legs.length e,.int .i64 r_.turn.lo,.int .i64 r_.turn.hi,.slice b r_.buses.length f,.slice d r_.spares.length g,.int .i64 r_.unit,.int .i64 r_.gap,.int .i64 r_.fr,.int .i64 r_.to_]
set_option maxRecDepth 100000 in
set_option maxHeartbeats 4000000 in
theorem C9 (n:Nat) {h:Ad} {w:World} (hh:Dv h w) (r_:Ag) {cs_r_:List Value} (hx_r_:rep h r_ cs_r_) (n_:Int) {r:Bool} (H:Cb n r_ n_=some r) :
  Calls Try.prog 64 #[.agg cs_r_.toArray,.int .i64 n_] w (D6 (fun h v=>v=.bool r) h w):=by
 obtain⟨_,_,rfl,⟨a,e,rfl,aa⟩,⟨_,_,rfl,⟨_,_,rfl,rfl,rfl⟩,⟨_,_,rfl,⟨b,f,rfl,ab⟩,⟨_,_,rfl,⟨d,g,rfl,ac⟩,⟨_,_,rfl,rfl,⟨_,_,rfl,rfl,⟨_,_,rfl,rfl,rfl⟩⟩⟩⟩⟩⟩⟩:=hx_r_
 refine enter 10 [.agg (L3 a r_ e b f d g),.c (.int .i64 n_)] Try.func64 rfl rfl rfl rfl fun t hk=>?_
 have hm:=Ah.begin h w hh
 unfold Cb at H
 refine QT (Ab (wl fun K hK=>?_))
 refine wb (.agg (L3 a r_ e b f d g)) hk hm fun j ad aq (p:Kn 10 [(j,0)] [tP 2 0 0,tA 0 (L3 a r_ e b f d g),tI 1 n_] ad) i=>hK _ _ ?_
 refine Rk 1 1 [tP 2 0 0,tI 1 n_] p i fun ak q=>?_
 refine wf (QT (Ab (Rk 0 2 [tA 6 (L3 a r_ e b f d g),tI 5 n_] q i fun al s=>?_)))
 obtain⟨x7,ex7,H⟩:=A3 H
 refine wl fun K hK=>?_
 refine wc [.agg (L3 a r_ e b f d g)] s i (BJ n i.has r_ ((Aa (Ae aa) (Aa (Aa Ac Ac) (Aa (Ae ab) (Aa (Ae ac) (Aa Ac (Aa Ac (Aa Ac Ac))))))):rep h r_ _) ex7) fun ao ag ar m ai k=>?_
 obtain rfl:=m
 refine⟨.one (.c (.int .i64 x7)),rfl,fun ae (u:Kn 10 [(j,0)] [tI 7 x7,tA 6 (L3 a r_ e b f d g),tI 5 n_] ae)=>hK _ _ ?_⟩
 refine Rk 3 1 [tI 8 (IntKind.i64.wrap (x7-1)),tI 5 n_] u k fun am x=>?_
 obtain⟨x9,ex9,H⟩:=A3 H
 refine wl fun K hK=>?_
 refine wc [.c (.int .i64 n_),.c (.int .i64 0),.c (.int .i64 (IntKind.i64.wrap (x7-1)))] x k (BI n k.has n_ 0 (IntKind.i64.wrap (x7-1)) ex9) fun ap ah au o aj l=>?_
 obtain rfl:=o
 refine⟨.one (.c (.bool x9)),rfl,fun af (y:Kn 10 [(j,0)] [tB 9 x9,tI 8 (IntKind.i64.wrap (x7-1)),tI 5 n_] af)=>hK _ _ ?_⟩
 refine Rk 5 1 [tB 4 x9] y l fun an z=>?_
 refine wf (wp_ret ?_)
 obtain rfl:=QZ H
 exact rt (.one (.c (.bool x9))) z l rfl
set_option maxRecDepth 100000 in
set_option maxHeartbeats 4000000 in
theorem EE (n:Nat) {h:Ad} {w:World} (hh:Dv h w) (r_:Rg) {cs_r_:List Value} (hx_r_:rep h r_ cs_r_) (most:Int) {r:Bool} (H:Dp n r_ most=some r) :
  Calls Try.prog 76 #[.agg cs_r_.toArray,.int .i64 most] w (D6 (fun h v=>v=.bool r) h w):=by
 obtain⟨_,_,rfl,rfl,rfl⟩:=hx_r_
 refine enter 21 [.agg [.int .i64 r_.lo,.int .i64 r_.hi],.c (.int .i64 most)] Try.func76 rfl rfl rfl rfl fun t hk=>?_
 have hm:=Ah.begin h w hh
 unfold Dp at H
 refine QT (Ab (wl fun K hK=>?_))
 refine wb (.agg [.int .i64 r_.lo,.int .i64 r_.hi]) hk hm fun b y ad (u:Kn 21 [(b,0)] [tP 2 0 0,tA 0 [.int .i64 r_.lo,.int .i64 r_.hi],tI 1 most] y) a=>hK _ _ ?_
 refine Rk 1 1 [tP 2 0 0,tI 1 most] u a fun ac x=>?_
 refine wf (QT (Ab (Rk 0 4 [tB 8 (decide (0≤r_.lo)),tP 2 0 0,tI 1 most] x a fun j g=>?_)))
 rcases Bool.eq_false_or_eq_true (decide (0≤r_.lo)) with d | d
 ·
  rw [d,QW] at H
  have k:Kn 21 [(b,0)] [tB 8 true,tP 2 0 0,tI 1 most] j:=(g.setB 8 true (by rfl) d).kp
  refine Rk 4 7 [tB 15 (decide (r_.lo≤r_.hi)),tP 2 0 0,tI 1 most] k a fun i f=>?_
  rcases Bool.eq_false_or_eq_true (decide (r_.lo≤r_.hi)) with e | e
  ·
   rw [e,QW] at H
   have l:Kn 21 [(b,0)] [tB 15 true,tP 2 0 0,tI 1 most] i:=(f.setB 15 true (by rfl) e).kp
   refine Rk 11 6 [tB 4 (decide (r_.hi≤most))] l a fun z m=>?_
   refine wf (wp_ret ?_)
   obtain rfl:=QZ H
   exact rt (.one (.c (.bool (decide (r_.hi≤most))))) m a rfl
  ·
   rw [e,QV] at H
   have o:Kn 21 [(b,0)] [tB 15 false,tP 2 0 0,tI 1 most] i:=(f.setB 15 false (by rfl) e).kp
   refine Rk 11 6 [tB 4 false] o a fun aa p=>?_
   refine wf (wp_ret ?_)
   obtain rfl:=QZ H
   exact rt (.one (.c (.bool false))) p a rfl
 ·
  rw [d,QV] at H
  have q:Kn 21 [(b,0)] [tB 8 false,tP 2 0 0,tI 1 most] j:=(g.setB 8 false (by rfl) d).kp
  refine Rk 4 13 [tB 4 false] q a fun ab s=>?_
  refine wf (wp_ret ?_)
  obtain rfl:=QZ H
  exact rt (.one (.c (.bool false))) s a rfl
set_option maxRecDepth 100000 in
set_option maxHeartbeats 4000000 in
theorem E6 (n:Nat) {h:Ad} {w:World} (hh:Dv h w) (r_:Rg) {cs_r_:List Value} (hx_r_:rep h r_ cs_r_) {r:Bool} (H:BL n r_=some r) :
  Calls Try.prog 81 #[.agg cs_r_.toArray] w (D6 (fun h v=>v=.bool r) h w):=by
 obtain⟨_,_,rfl,rfl,rfl⟩:=hx_r_
 refine enter 5 [.agg [.int .i64 r_.lo,.int .i64 r_.hi]] Try.func81 rfl rfl rfl rfl fun t hk=>?_
 have hm:=Ah.begin h w hh
 unfold BL at H
 refine QT (Ab (wl fun K hK=>?_))
 refine wb (.agg [.int .i64 r_.lo,.int .i64 r_.hi]) hk hm fun b m z (i:Kn 5 [(b,0)] [tP 1 0 0,tA 0 [.int .i64 r_.lo,.int .i64 r_.hi]] m) a=>hK _ _ ?_
 refine Rk 1 1 [tP 1 0 0] i a fun s j=>?_
 refine wf (QT (Ab (Rk 0 1 [tA 3 [.int .i64 r_.lo,.int .i64 r_.hi]] j a fun u k=>?_)))
 obtain⟨x4,ex4,H⟩:=A3 H
 refine wl fun K hK=>?_
 refine wc [.agg [.int .i64 r_.lo,.int .i64 r_.hi],.c (.int .i64 300)] k a (EE n a.has r_ ((Aa Ac Ac):rep h r_ _) 300 ex4) fun x o y e p d=>?_
 obtain rfl:=e
 refine⟨.one (.c (.bool x4)),rfl,fun l (f:Kn 5 [(b,0)] [tB 4 x4,tA 3 [.int .i64 r_.lo,.int .i64 r_.hi]] l)=>hK _ _ ?_⟩
 refine Rk 2 1 [tB 2 x4] f d fun q g=>?_
 refine wf (wp_ret ?_)
 obtain rfl:=QZ H
 exact rt (.one (.c (.bool x4))) g d rfl
set_option maxRecDepth 100000 in
set_option maxHeartbeats 4000000 in
theorem DL (n:Nat) {h:Ad} {w:World} (hh:Dv h w) (r_:Rg) {cs_r_:List Value} (hx_r_:rep h r_ cs_r_) (n_:Int) {r:Bool} (H:CL n r_ n_=some r) :
  Calls Try.prog 97 #[.agg cs_r_.toArray,.int .i64 n_] w (D6 (fun h v=>v=.bool r) h w):=by
 obtain⟨_,_,rfl,rfl,rfl⟩:=hx_r_
 refine enter 11 [.agg [.int .i64 r_.lo,.int .i64 r_.hi],.c (.int .i64 n_)] Try.func97 rfl rfl rfl rfl fun t hk=>?_
 have hm:=Ah.begin h w hh
 unfold CL at H
 refine QT (Ab (wl fun K hK=>?_))
 refine wb (.agg [.int .i64 r_.lo,.int .i64 r_.hi]) hk hm fun b m z (i:Kn 11 [(b,0)] [tP 2 0 0,tA 0 [.int .i64 r_.lo,.int .i64 r_.hi],tI 1 n_] m) a=>hK _ _ ?_
 refine Rk 1 1 [tP 2 0 0,tI 1 n_] i a fun s j=>?_
 refine wf (QT (Ab (Rk 0 5 [tI 9 r_.hi,tI 7 r_.lo,tI 5 n_] j a fun u k=>?_)))
 obtain⟨x10,ex10,H⟩:=A3 H
 refine wl fun K hK=>?_
 refine wc [.c (.int .i64 n_),.c (.int .i64 r_.lo),.c (.int .i64 r_.hi)] k a (BI n a.has n_ r_.lo r_.hi ex10) fun x o y e p d=>?_
 obtain rfl:=e
 refine⟨.one (.c (.bool x10)),rfl,fun l (f:Kn 11 [(b,0)] [tB 10 x10,tI 9 r_.hi,tI 7 r_.lo,tI 5 n_] l)=>hK _ _ ?_⟩
 refine Rk 6 1 [tB 4 x10] f d fun q g=>?_
 refine wf (wp_ret ?_)
 obtain rfl:=QZ H
 exact rt (.one (.c (.bool x10))) g d rfl
set_option maxRecDepth 100000 in
set_option maxHeartbeats 4000000 in
theorem AO (n:Nat) {h:Ad} {w:World} (hh:Dv h w) (r_:Rg) {cs_r_:List Value} (hx_r_:rep h r_ cs_r_) {r:Int} (H:Aj n r_=some r) :
  Calls Try.prog 68 #[.agg cs_r_.toArray] w (D6 (fun h v=>v=.int .i64 r) h w):=by
 obtain⟨_,_,rfl,rfl,rfl⟩:=hx_r_
 refine enter 5 [.agg [.int .i64 r_.lo,.int .i64 r_.hi]] Try.func68 rfl rfl rfl rfl fun t hk=>?_
 have hm:=Ah.begin h w hh
 unfold Aj at H
 refine QT (Ab (wl fun K hK=>?_))
 refine wb (.agg [.int .i64 r_.lo,.int .i64 r_.hi]) hk hm fun b g k (d:Kn 5 [(b,0)] [tP 1 0 0,tA 0 [.int .i64 r_.lo,.int .i64 r_.hi]] g) a=>hK _ _ ?_
 refine Rk 1 1 [tP 1 0 0] d a fun i e=>?_
 refine wf (QT (Ab (Rk 0 3 [tI 2 r_.lo] e a fun j f=>?_)))
 refine wf (wp_ret ?_)
 obtain rfl:=QZ H
 exact rt (.one (.c (.int .i64 r_.lo))) f a rfl
set_option maxRecDepth 100000 in
set_option maxHeartbeats 4000000 in
theorem Ca (n:Nat) {h:Ad} {w:World} (hh:Dv h w) (r_:Rg) {cs_r_:List Value} (hx_r_:rep h r_ cs_r_) {r:Int} (H:Ap n r_=some r) :
  Calls Try.prog 69 #[.agg cs_r_.toArray] w (D6 (fun h v=>v=.int .i64 r) h w):=by
 obtain⟨_,_,rfl,rfl,rfl⟩:=hx_r_
 refine enter 5 [.agg [.int .i64 r_.lo,.int .i64 r_.hi]] Try.func69 rfl rfl rfl rfl fun t hk=>?_
 have hm:=Ah.begin h w hh
 unfold Ap at H
 refine QT (Ab (wl fun K hK=>?_))
 refine wb (.agg [.int .i64 r_.lo,.int .i64 r_.hi]) hk hm fun b g k (d:Kn 5 [(b,0)] [tP 1 0 0,tA 0 [.int .i64 r_.lo,.int .i64 r_.hi]] g) a=>hK _ _ ?_
 refine Rk 1 1 [tP 1 0 0] d a fun i e=>?_
 refine wf (QT (Ab (Rk 0 3 [tI 2 r_.hi] e a fun j f=>?_)))
 refine wf (wp_ret ?_)
 obtain rfl:=QZ H
 exact rt (.one (.c (.int .i64 r_.hi))) f a rfl
abbrev OO (a:Option Addr) (r_:Ag) (e:Nat) (b:Option Addr) (f:Nat) (d:Option Addr) (g:Nat):List SC:=[.slice a r_.legs.length e,.int .i64 r_.turn.lo,.int .i64 r_.turn.hi,.slice b r_.buses.length f,.slice d r_.spares.length g,.int .i64 r_.unit,.int .i64 r_.gap,.int .i64 r_.fr,.int .i64 r_.to_]
set_option maxRecDepth 100000 in
set_option maxHeartbeats 4000000 in
theorem Ep (n:Nat) {h:Ad} {w:World} (hh:Dv h w) (r_:Ag) {cs_r_:List Value} (hx_r_:rep h r_ cs_r_) (n_:Int) {r:Bool} (H:AL n r_ n_=some r) :
  Calls Try.prog 95 #[.agg cs_r_.toArray,.int .i64 n_] w (D6 (fun h v=>v=.bool r) h w):=by
 obtain⟨_,_,rfl,⟨a,e,rfl,aa⟩,⟨_,_,rfl,⟨_,_,rfl,rfl,rfl⟩,⟨_,_,rfl,⟨b,f,rfl,ab⟩,⟨_,_,rfl,⟨d,g,rfl,ac⟩,⟨_,_,rfl,rfl,⟨_,_,rfl,rfl,⟨_,_,rfl,rfl,rfl⟩⟩⟩⟩⟩⟩⟩:=hx_r_
 refine enter 11 [.agg (OO a r_ e b f d g),.c (.int .i64 n_)] Try.func95 rfl rfl rfl rfl fun t hk=>?_
 have hm:=Ah.begin h w hh
 unfold AL at H
 refine QT (Ab (wl fun K hK=>?_))
 refine wb (.agg (OO a r_ e b f d g)) hk hm fun j u ah (m:Kn 11 [(j,0)] [tP 2 0 0,tA 0 (OO a r_ e b f d g),tI 1 n_] u) i=>hK _ _ ?_
 refine Rk 1 1 [tP 2 0 0,tI 1 n_] m i fun ad o=>?_
 refine wf (QT (Ab (Rk 0 5 [tI 9 r_.to_,tI 7 r_.fr,tI 5 n_] o i fun ae p=>?_)))
 obtain⟨x10,ex10,H⟩:=A3 H
 refine wl fun K hK=>?_
 refine wc [.c (.int .i64 n_),.c (.int .i64 r_.fr),.c (.int .i64 r_.to_)] p i (BI n i.has n_ r_.fr r_.to_ ex10) fun ag y ai l z k=>?_
 obtain rfl:=l
 refine⟨.one (.c (.bool x10)),rfl,fun x (q:Kn 11 [(j,0)] [tB 10 x10,tI 9 r_.to_,tI 7 r_.fr,tI 5 n_] x)=>hK _ _ ?_⟩
 refine Rk 6 1 [tB 4 x10] q k fun af s=>?_
 refine wf (wp_ret ?_)
 obtain rfl:=QZ H
 exact rt (.one (.c (.bool x10))) s k rfl
abbrev MS (b:Ct):List SC:=[.int .i64 b.stop,.int .i64 b.tm.lo,.int .i64 b.tm.hi]
abbrev JH (a:Option Addr) (r_:Ag) (f:Nat) (d:Option Addr) (g:Nat) (e:Option Addr) (i:Nat):List SC:=[.slice a r_.legs.length f,.int .i64 r_.turn.lo,.int .i64 r_.turn.hi,.slice d r_.buses.length g,.slice e r_.spares.length i,.int .i64 r_.unit,.int .i64 r_.gap,.int .i64 r_.fr,.int .i64 r_.to_]
set_option maxRecDepth 100000 in
set_option maxHeartbeats 4000000 in
theorem E7 (n:Nat) {h:Ad} {w:World} (hh:Dv h w) (r_:Ag) {cs_r_:List Value} (hx_r_:rep h r_ cs_r_) (b:Ct) {cs_b:List Value} (hx_b:rep h b cs_b) (at_:Int) {r:Bool} (H:CW n r_ b at_=some r) :
  Calls Try.prog 86 #[.agg cs_r_.toArray,.agg cs_b.toArray,.int .i64 at_] w (D6 (fun h v=>v=.bool r) h w):=by
 obtain⟨_,_,rfl,⟨a,f,rfl,ak⟩,⟨_,_,rfl,⟨_,_,rfl,rfl,rfl⟩,⟨_,_,rfl,⟨d,g,rfl,al⟩,⟨_,_,rfl,⟨e,i,rfl,am⟩,⟨_,_,rfl,rfl,⟨_,_,rfl,rfl,⟨_,_,rfl,rfl,rfl⟩⟩⟩⟩⟩⟩⟩:=hx_r_
 obtain⟨_,_,rfl,rfl,⟨_,_,rfl,rfl,rfl⟩⟩:=hx_b
 refine enter 18 [.agg (JH a r_ f d g e i),.agg (MS b),.c (.int .i64 at_)] Try.func86 rfl rfl rfl rfl fun t hk=>?_
 have hm:=Ah.begin h w hh
 unfold CW at H
 refine QT (Ab (wl fun K hK=>?_))
 refine wb (.agg (JH a r_ f d g e i)) hk hm fun k an a4 (aa:Kn 18 [(k,0)] [tP 3 0 0,tA 0 (JH a r_ f d g e i),tA 1 (MS b),tI 2 at_] an) aj=>hK _ _ ?_
 refine wl fun K hK=>?_
 refine wb (.agg (MS b)) aa aj fun l ao a5 (ab:Kn 18 [(k,0),(l,0)] [tP 4 1 0,tP 3 0 0,tA 0 (JH a r_ f d g e i),tA 1 (MS b),tI 2 at_] ao) j=>hK _ _ ?_
 refine Rk 2 1 [tP 4 1 0,tP 3 0 0,tI 2 at_] ab j fun ax ac=>?_
 refine wf (QT (Ao (by kernel_rfl) ?_))
 replace j:=j.drew
 refine At [] [(k,0),(l,0)] [⟨JH a r_ f d g e i,some 43⟩,⟨MS b,some 96⟩] ?_
 refine Dr [0,1,2] [2,1,0] [tB 9 (at_ == (-1)),tP 4 1 0,tP 3 0 0,tI 2 at_] ac j fun x q=>?_
 rcases Bool.eq_false_or_eq_true ((at_ == (-1))) with m | m
 ·
  rw [m,QW] at H
  have ad:Kn 18 [(k,0),(l,0)] [tB 9 true,tP 4 1 0,tP 3 0 0,tI 2 at_] x:=(q.setB 9 true (by rfl) m).kp
  refine Dr [3,4,5,6,7,8,9,10,11] (dn 11) [tB 6 true] ad j fun ay ae=>?_
  refine AH (by kernel_rfl) (wp_ret ?_)
  obtain rfl:=QZ H
  exact rt (.one (.c (.bool true))) ae j rfl
 ·
  rw [m,QV] at H
  have af:Kn 18 [(k,0),(l,0)] [tB 9 false,tP 4 1 0,tP 3 0 0,tI 2 at_] x:=(q.setB 9 false (by rfl) m).kp
  refine Dr [3,4,5,6] (dn 6) [tA 13 (JH a r_ f d g e i),tI 12 b.stop,tI 10 at_,tB 9 false] af j fun az s=>?_
  obtain⟨x14,ex14,H⟩:=A3 H
  refine Gp 7 rfl (by kernel_rfl) (by decide) (Ai s (by kernel_rfl)) fun K hK=>?_
  refine wc [.agg (JH a r_ f d g e i)] s j (De n j.has r_ ((Aa (Ae ak) (Aa (Aa Ac Ac) (Aa (Ae al) (Aa (Ae am) (Aa Ac (Aa Ac (Aa Ac Ac))))))):rep h r_ _) ex14) fun a2 ar a6 y av o=>?_
  obtain rfl:=y
  refine⟨.one (.c (.int .i64 x14)),rfl,fun ap (ag:Kn 18 [(k,0),(l,0)] [tI 14 x14,tA 13 (JH a r_ f d g e i),tI 12 b.stop,tI 10 at_,tB 9 false] ap)=>hK _ _ o.plOk ?_⟩
  refine Dr [8] (dn 8) [tI 15 (IntKind.i64.wrap (x14-2)),tI 12 b.stop,tI 10 at_,tB 9 false] ag o fun a0 u=>?_
  obtain⟨x16,ex16,H⟩:=A3 H
  refine Gp 9 rfl (by kernel_rfl) (by decide) (Ai u (by kernel_rfl)) fun K hK=>?_
  refine wc [.c (.int .i64 at_),.c (.int .i64 b.stop),.c (.int .i64 (IntKind.i64.wrap (x14-2)))] u o (BI n o.has at_ b.stop (IntKind.i64.wrap (x14-2)) ex16) fun a3 au a7 z aw p=>?_
  obtain rfl:=z
  refine⟨.one (.c (.bool x16)),rfl,fun aq (ah:Kn 18 [(k,0),(l,0)] [tB 16 x16,tI 15 (IntKind.i64.wrap (x14-2)),tI 12 b.stop,tI 10 at_,tB 9 false] aq)=>hK _ _ p.plOk ?_⟩
  refine Dr [10,11] (dn 11) [tB 6 x16] ah p fun a1 ai=>?_
  refine AH (by kernel_rfl) (wp_ret ?_)
  obtain rfl:=QZ H
  exact rt (.one (.c (.bool x16))) ai p rfl
abbrev MT (x46:Ct):List SC:=[.int .i64 x46.tm.lo,.int .i64 x46.tm.hi]
abbrev MU (r_:Ag):List SC:=[.int .i64 r_.turn.lo,.int .i64 r_.turn.hi]
abbrev JI (x46:Ct):List SC:=[.int .i64 x46.stop,.int .i64 x46.tm.lo,.int .i64 x46.tm.hi]
abbrev GJ (q:Option Addr) (t_:AB) (u:Nat) (s:Option Addr) (x:Nat) (e:Option Addr) (f:Nat):List SC:=[.slice q t_.tm.length u,.slice s t_.turns.length x,.slice e t_.legs.length f]
abbrev GK (p:Option Addr) (r_:Ag) (y:Nat) (a:Option Addr) (d:Nat) (ab:Option Addr) (ac:Nat):List SC:=[.slice p r_.legs.length y,.int .i64 r_.turn.lo,.int .i64 r_.turn.hi,.slice a r_.buses.length d,.slice ab r_.spares.length ac,.int .i64 r_.unit,.int .i64 r_.gap,.int .i64 r_.fr,.int .i64 r_.to_]
abbrev Ec (x_v10:Int) (r_:Ag) (a:Option Addr) (d:Nat):TM:=[tI 43 x_v10,tI 42 ((r_.buses.length:Nat):Int),tS 41 a r_.buses.length d,tP 3 1 0,tP 2 0 0]
abbrev GL (x74:List Int) (l:Option Addr) (m:Nat) (x_v20:Int) (t_:AB) (e:Option Addr) (f:Nat):TM:=[tI 83 ((x74.length:Nat):Int),tS 82 l x74.length m,tI 72 x_v20,tI 71 ((t_.legs.length:Nat):Int),tS 70 e t_.legs.length f,tP 2 0 0]
abbrev JJ (t_:AB) (e:Option Addr) (f:Nat):TM:=[tI 71 ((t_.legs.length:Nat):Int),tS 70 e t_.legs.length f,tP 2 0 0]
abbrev Gg:TM:=[tP 3 1 0,tP 2 0 0]
set_option maxRecDepth 100000 in
set_option maxHeartbeats 4000000 in
theorem G2 (n:Nat) {h:Ad} {w:World} (hh:Dv h w) (r_:Ag) {cs_r_:List Value} (hx_r_:rep h r_ cs_r_) (t_:AB) {cs_t_:List Value} (hx_t_:rep h t_ cs_t_) {r:Bool} (H:DT n r_ t_=some r) :
  Calls Try.prog 72 #[.agg cs_r_.toArray,.agg cs_t_.toArray] w (D6 (fun h v=>v=.bool r) h w):=by
 obtain⟨_,_,rfl,⟨p,y,rfl,ag⟩,⟨_,_,rfl,⟨_,_,rfl,rfl,rfl⟩,⟨_,_,rfl,⟨a,d,rfl,ah⟩,⟨_,_,rfl,⟨ab,ac,rfl,ai⟩,⟨_,_,rfl,rfl,⟨_,_,rfl,rfl,⟨_,_,rfl,rfl,rfl⟩⟩⟩⟩⟩⟩⟩:=hx_r_
 obtain⟨_,_,rfl,⟨q,u,rfl,ad⟩,⟨_,_,rfl,⟨s,x,rfl,ae⟩,⟨e,f,rfl,af⟩⟩⟩:=hx_t_
 refine enter 99 [.agg (GK p r_ y a d ab ac),.agg (GJ q t_ u s x e f)] Try.func72 rfl rfl rfl rfl fun t hk=>?_
 have hm:=Ah.begin h w hh
 unfold DT at H
 refine QT (Ab (wl fun K hK=>?_))
 refine wb (.agg (GK p r_ y a d ab ac)) hk hm fun g f7 h4 (ea:Kn 99 [(g,0)] [tP 2 0 0,tA 0 (GK p r_ y a d ab ac),tA 1 (GJ q t_ u s x e f)] f7) fa=>hK _ _ ?_
 refine wl fun K hK=>?_
 refine wb (.agg (GJ q t_ u s x e f)) ea fa fun i ga h6 (ei:Kn 99 [(g,0),(i,0)] [tP 3 1 0,tP 2 0 0,tA 0 (GK p r_ y a d ab ac),tA 1 (GJ q t_ u s x e f)] ga) ao=>hK _ _ ?_
 refine Rk 2 1 Gg ei ao fun hl er=>?_
 refine wf (QT (QT ?_))
 obtain⟨c0,aw,H⟩:=A3 H
 refine A7 (fun a' w'=>∃ (cg:Array Value)(a4:Ad),a' = ⟨cg,[]⟩∧Kn 99 [(g,0),(i,0)] [tP 3 1 0,tP 2 0 0,tB 39 c0] cg∧Ah ⟨w,h,Az⟩ a4 [(g,0),(i,0)] [⟨GK p r_ y a d ab ac,some 43⟩,⟨GJ q t_ u s x e f,some 76⟩] [] w'∧Ad.le h a4) ?_ ?_
 ·
  refine Ab (Rk 0 8 ((tB 18 (((t_.tm.length:Nat):Int) != ((r_.buses.length:Nat):Int)))::Gg) er ao fun c6 cq=>?_)
  rcases Bool.eq_false_or_eq_true ((((t_.tm.length:Nat):Int) != ((r_.buses.length:Nat):Int))) with a7 | a7
  ·
   rw [a7,QW] at aw
   have es:Kn 99 [(g,0),(i,0)] ((tB 18 true)::Gg) c6:=(cq.setB 18 true (by rfl) a7).kp
   refine Rk 8 21 ((tB 39 true)::Gg) es ao fun ho et=>?_
   refine wf ?_
   obtain rfl:=QZ aw
   exact QY _ ⟨_,rfl,et.kp,ao,Ad.le_refl _⟩
  ·
   rw [a7,QV] at aw
   have eu:Kn 99 [(g,0),(i,0)] ((tB 18 false)::Gg) c6:=(cq.setB 18 false (by rfl) a7).kp
   refine Rk 8 9 ((tB 27 (((t_.turns.length:Nat):Int) != ((r_.buses.length:Nat):Int)))::Gg) eu ao fun c7 cr=>?_
   rcases Bool.eq_false_or_eq_true ((((t_.turns.length:Nat):Int) != ((r_.buses.length:Nat):Int))) with a8 | a8
   ·
    rw [a8,QW] at aw
    have ev:Kn 99 [(g,0),(i,0)] ((tB 27 true)::Gg) c7:=(cr.setB 27 true (by rfl) a8).kp
    refine Rk 17 12 ((tB 39 true)::Gg) ev ao fun hp ew=>?_
    refine wf ?_
    obtain rfl:=QZ aw
    exact QY _ ⟨_,rfl,ew.kp,ao,Ad.le_refl _⟩
   ·
    rw [a8,QV] at aw
    have ex:Kn 99 [(g,0),(i,0)] ((tB 27 false)::Gg) c7:=(cr.setB 27 false (by rfl) a8).kp
    refine Rk 17 12 ((tB 39 (((t_.legs.length:Nat):Int) != (IntKind.i64.wrap (((r_.buses.length:Nat):Int)+((r_.spares.length:Nat):Int)))))::Gg) ex ao fun hq ey=>?_
    refine wf ?_
    obtain rfl:=QZ aw
    exact QY _ ⟨_,rfl,ey.kp,ao,Ad.le_refl _⟩
 ·
  rintro _ ia ⟨cg,a4,rfl,b2,bg,a0⟩
  replace ag:=ag.mono a0
  replace ah:=ah.mono a0
  replace ai:=ai.mono a0
  replace ad:=ad.mono a0
  replace ae:=ae.mono a0
  replace af:=af.mono a0
  refine wC (c0) b2 (fun bu=>?_) (fun bu=>?_)
  ·
   rw [bu,QW] at H
   refine QT (Ab (Rk 0 1 [tB 4 false] b2 bg fun hr ez=>?_))
   refine wf (wp_ret ?_)
   obtain rfl:=QZ H
   exact rt (.one (.c (.bool false))) ez bg rfl
  ·
   rw [bu,QV] at H
   refine wp_skip (QT (QT (Ab (Rk 0 4 ((tI 43 0)::(tI 42 ((r_.buses.length:Nat):Int))::(tS 41 a r_.buses.length d)::Gg) b2 bg fun hs e0=>?_))))
   refine wf ?_
   obtain⟨c1,cl,H⟩:=A3 H
   refine A7 (fun a' w'=>∃ (c4:Unit)(ch:Array Value)(a5:Ad),a' = ⟨ch,[]⟩∧Kn 99 [(g,0),(i,0)] Gg ch∧Ah ⟨w,h,Az⟩ a5 [(g,0),(i,0)] [⟨GK p r_ y a d ab ac,some 43⟩,⟨GJ q t_ u s x e f,some 76⟩] [] w'∧Ad.le a4 a5∧c1=.go c4) ?_ ?_
   ·
    refine wp_block ?_
    refine A5 (fun f2 a' w'=>∃ (x_v10:Int)(ci:Array Value)(be:Ad),a' = ⟨ci,[]⟩∧Kn 99 [(g,0),(i,0)] (Ec x_v10 r_ a d) ci∧Ah ⟨w,h,Az⟩ be [(g,0),(i,0)] [⟨GK p r_ y a d ab ac,some 43⟩,⟨GJ q t_ u s x e f,some 76⟩] [] w'∧Ad.le a4 be∧BD f2 r_ t_ x_v10=some c1) n ?_ ?_
    ·
     exact QY 0 ⟨_,_,rfl,e0.kp,bg,Ad.le_refl _,cl⟩
    ·
     rintro bb _ ib ⟨x_v10,ci,be,rfl,e1,bh,ar,k⟩
     clear cl
     obtain _ | bb:=bb
     ·
      rw [BD] at k; cases k
     rw [BD] at k
     replace ag:=ag.mono ar
     replace ah:=ah.mono ar
     replace ai:=ai.mono ar
     replace ad:=ad.mono ar
     replace ae:=ae.mono ar
     replace af:=af.mono ar
     refine QT (Ab (Rk 0 1 ((tB 44 (decide (x_v10<((r_.buses.length:Nat):Int))))::(Ec x_v10 r_ a d)) e1 bh fun ht b3=>?_))
     refine wf (QT (wC (decide (x_v10<((r_.buses.length:Nat):Int))) b3 (fun bv=>?_) (fun bv=>?_)))
     ·
      rw [bv,QW] at k
      refine wp_skip (QT (wp_block (QT (Ab (Rk 0 1 ((tI 45 x_v10)::(Ec x_v10 r_ a d)) b3 bh fun hu e2=>?_)))))
      obtain⟨x46,ex46,k⟩:=A3 k
      obtain⟨fg,fm,fz⟩:=Ak ex46
      obtain⟨aj,ak,gm,dh,ft,dp⟩:=ah.get (by decide) fz
      obtain⟨_,_,rfl,rfl,⟨_,_,rfl,rfl,rfl⟩⟩:=ft
      have cw:=bh.addPlc (b:=aj) (o:=ak+(x_v10:Int).toNat*3) (cs:=(JI x46)) (fun j c hj=>dp j _ (Al hj)) rfl (by kernel_rfl) (by kernel_rfl)
      refine A6 1 (x_v10) rfl rfl (rfl) rfl (by decide) e2 (by rfl) (by rfl) (by rfl) dh (by rfl) fg fm (by kernel_rfl) fun gd (e3:Kn 99 [(g,0),(i,0),(aj,ak+(x_v10:Int).toNat*3)] ((tP 46 2 0)::(tI 45 x_v10)::(Ec x_v10 r_ a d)) gd)=>?_
      refine Rk 2 1 ((tA 47 (JI x46))::(tI 45 x_v10)::(Ec x_v10 r_ a d)) e3 cw fun hv e4=>?_
      refine wl fun K hK=>?_
      refine wa [.int .i64 0,.int .i64 0,.int .i64 0] e4 cw fun am gf ic (e5:Kn 99 [(g,0),(i,0),(aj,ak+(x_v10:Int).toNat*3),(am,0)] ((tP 6 3 0)::(tA 47 (JI x46))::(tI 45 x_v10)::(Ec x_v10 r_ a d)) gf) cx=>hK _ _ ?_
      refine Rk 4 1 ((tI 5 x_v10)::(tP 6 3 0)::(tA 47 (JI x46))::(Ec x_v10 r_ a d)) e5 cx fun gg e6=>?_
      refine wl fun K hK=>?_
      refine Ea 3 0 (.agg (JI x46)) (JI x46) e6 cx fun hz dq a9=>hK _ _ ?_
      have dr:Kn 99 [(g,0),(i,0),(aj,ak+(x_v10:Int).toNat*3),(am,0)] ((tI 5 x_v10)::(tP 6 3 0)::(Ec x_v10 r_ a d)) gg:=dq.kp
      refine wf (QT (Ao (by kernel_rfl) ?_))
      replace a9:=a9.drew
      refine At [] [(g,0),(i,0),(aj,ak+(x_v10:Int).toNat*3),(am,0)] [⟨GK p r_ y a d ab ac,some 43⟩,⟨GJ q t_ u s x e f,some 76⟩,⟨JI x46,none⟩,⟨JI x46,some 96⟩] ?_
      refine Dr [0,1,2,3,4] (dn 4) ((tI 52 x_v10)::(tS 51 q t_.tm.length u)::(tA 49 (MT x46))::(tI 5 x_v10)::(Ec x_v10 r_ a d)) dr a9 fun gr ds=>?_
      obtain⟨x53,ex53,k⟩:=A3 k
      obtain⟨fb,fh,fu⟩:=Ak ex53
      obtain⟨av,ay,gh,dc,fn,di⟩:=ad.get (by decide) fu
      obtain rfl:=fn
      have b4:=a9.addPlc (b:=av) (o:=ay+(x_v10:Int).toNat*1) (cs:=[.int .i64 x53]) (fun j c hj=>di j _ (Al hj)) rfl (by kernel_rfl) (by kernel_rfl)
      refine AY 5 (x_v10) [.int .i64 x53] (fun _ _ _ _ _ h=>h) rfl rfl (rfl) rfl (by decide) (by kernel_rfl) (by kernel_rfl) ds a9.plOk (by rfl) (by rfl) (by rfl) dc (by rfl) fb fh (by kernel_rfl) fun f3 (dt:Kn 99 [(g,0),(i,0),(aj,ak+(x_v10:Int).toNat*3),(am,0),(av,ay+(x_v10:Int).toNat*1)] ((tP 53 4 0)::(tI 52 x_v10)::(tS 51 q t_.tm.length u)::(tA 49 (MT x46))::(tI 5 x_v10)::(Ec x_v10 r_ a d)) f3)=>?_
      refine Dr [6] (dn 6) ((tI 54 x53)::(tA 49 (MT x46))::(tI 5 x_v10)::(Ec x_v10 r_ a d)) dt b4 fun gs du=>?_
      obtain⟨x55,ex55,k⟩:=A3 k
      refine Dl 7 fun K hK=>?_
      refine wc [.agg (MT x46),.c (.int .i64 x53)] du b4 (DL bb b4.has x46.tm ((Aa Ac Ac):rep be x46.tm _) x53 ex55) fun hw db h0 c8 ax au=>?_
      replace ag:=ag.mono ax
      replace ah:=ah.mono ax
      replace ai:=ai.mono ax
      replace ad:=ad.mono ax
      replace ae:=ae.mono ax
      replace af:=af.mono ax
      obtain rfl:=c8
      refine⟨.one (.c (.bool x55)),rfl,fun f4 (dv:Kn 99 [(g,0),(i,0),(aj,ak+(x_v10:Int).toNat*3),(am,0),(av,ay+(x_v10:Int).toNat*1)] ((tB 55 x55)::(tI 54 x53)::(tA 49 (MT x46))::(tI 5 x_v10)::(Ec x_v10 r_ a d)) f4)=>hK _ _ au.plOk ?_⟩
      refine Dr [8,9] (dn 9) ((tB 57 (!x55))::(tI 5 x_v10)::(Ec x_v10 r_ a d)) dv au fun c5 cm=>?_
      rcases Bool.eq_false_or_eq_true ((!x55)) with a6 | a6
      ·
       rw [a6,QW] at k
       have dw:Kn 99 [(g,0),(i,0),(aj,ak+(x_v10:Int).toNat*3),(am,0),(av,ay+(x_v10:Int).toNat*1)] ((tB 57 true)::(tI 5 x_v10)::(Ec x_v10 r_ a d)) c5:=(cm.setB 57 true (by rfl) a6).kp
       refine Dr [10,11,12,13,14,15,16,17,18,19] (dn 19) ((tB 67 true)::(Ec x_v10 r_ a d)) dw au fun gu cn=>?_
       refine AH (by kernel_rfl) (wC true cn (fun hb=>?_) (fun hb=>?_))
       rotate_left
       ·
        cases hb
       refine QT (Ab (Rk 0 1 [tB 4 false] cn au fun gv dx=>?_))
       refine wf (wp_ret ?_)
       obtain rfl:=QZ k
       obtain rfl:=QZ H
       exact rt (.one (.c (.bool false))) dx au rfl
      ·
       rw [a6,QV] at k
       have dy:Kn 99 [(g,0),(i,0),(aj,ak+(x_v10:Int).toNat*3),(am,0),(av,ay+(x_v10:Int).toNat*1)] ((tB 57 false)::(tI 5 x_v10)::(Ec x_v10 r_ a d)) c5:=(cm.setB 57 false (by rfl) a6).kp
       refine Dr [10,11,12,13,14] (dn 14) ((tI 62 x_v10)::(tS 61 s t_.turns.length x)::(tA 59 (MU r_))::(tB 57 false)::(Ec x_v10 r_ a d)) dy au fun gw co=>?_
       obtain⟨x63,ex63,k⟩:=A3 k
       obtain⟨fc,fi,fv⟩:=Ak ex63
       obtain⟨bl,ca,gi,dd,fo,dj⟩:=ae.get (by decide) fv
       obtain rfl:=fo
       have b5:=au.addPlc (b:=bl) (o:=ca+(x_v10:Int).toNat*1) (cs:=[.int .i64 x63]) (fun j c hj=>dj j _ (Al hj)) rfl (by kernel_rfl) (by kernel_rfl)
       refine AY 15 (x_v10) [.int .i64 x63] (fun _ _ _ _ _ h=>h) rfl rfl (Ai co (by kernel_rfl)) rfl (by decide) (by kernel_rfl) (by kernel_rfl) co au.plOk (by rfl) (by rfl) (by rfl) dd (by rfl) fc fi (by kernel_rfl) fun f5 (dz:Kn 99 [(g,0),(i,0),(aj,ak+(x_v10:Int).toNat*3),(am,0),(av,ay+(x_v10:Int).toNat*1),(bl,ca+(x_v10:Int).toNat*1)] ((tP 63 5 0)::(tI 62 x_v10)::(tS 61 s t_.turns.length x)::(tA 59 (MU r_))::(tB 57 false)::(Ec x_v10 r_ a d)) f5)=>?_
       refine Dr [16] (dn 16) ((tI 64 x63)::(tA 59 (MU r_))::(tB 57 false)::(Ec x_v10 r_ a d)) dz b5 fun gx cp=>?_
       obtain⟨x65,ex65,k⟩:=A3 k
       refine Gp 17 rfl (by kernel_rfl) (by decide) (Ai cp (by kernel_rfl)) fun K hK=>?_
       refine wc [.agg (MU r_),.c (.int .i64 x63)] cp b5 (DL bb b5.has r_.turn ((Aa Ac Ac):rep db r_.turn _) x63 ex65) fun hx gn h1 c9 e7 a1=>?_
       obtain rfl:=c9
       refine⟨.one (.c (.bool x65)),rfl,fun f6 (d0:Kn 99 [(g,0),(i,0),(aj,ak+(x_v10:Int).toNat*3),(am,0),(av,ay+(x_v10:Int).toNat*1),(bl,ca+(x_v10:Int).toNat*1)] ((tB 65 x65)::(tI 64 x63)::(tA 59 (MU r_))::(tB 57 false)::(Ec x_v10 r_ a d)) f6)=>hK _ _ a1.plOk ?_⟩
       refine Dr [18,19] (dn 19) ((tB 67 (!x65))::(Ec x_v10 r_ a d)) d0 a1 fun gy bw=>?_
       refine AH (by kernel_rfl) (wC ((!x65)) bw (fun bp=>?_) (fun bp=>?_))
       ·
        rw [bp,QW] at k
        refine QT (Ab (Rk 0 1 [tB 4 false] bw a1 fun gz d1=>?_))
        refine wf (wp_ret ?_)
        obtain rfl:=QZ k
        obtain rfl:=QZ H
        exact rt (.one (.c (.bool false))) d1 a1 rfl
       ·
        rw [bp,QV] at k
        refine wp_skip (Ab (Rk 0 2 ((tI 43 (IntKind.i64.wrap (x_v10+1)))::(tI 42 ((r_.buses.length:Nat):Int))::(tS 41 a r_.buses.length d)::Gg) bw a1 fun g0 d2=>?_))
        refine wf ?_
        exact QY bb ⟨Nat.lt_succ_self _,QY (IntKind.i64.wrap (x_v10+1)) ⟨_,_,rfl,(d2.keep [43,42,41,3,2] (by rfl)).cut 2 (by kernel_rfl),a1.cutPl 2 (by kernel_rfl),QU ar (QU ax e7),k⟩⟩
     ·
      rw [bv,QV] at k
      refine wp_exit ?_
      obtain rfl:=QZ k
      exact QY () ⟨_,_,rfl,b3.kp,bh,ar,rfl⟩
   ·
    rintro _ h2 ⟨c4,ch,a5,rfl,d3,ct,az,rfl⟩
    rw [Ex.bind_go] at H
    replace ag:=ag.mono az
    replace ah:=ah.mono az
    replace ai:=ai.mono az
    replace ad:=ad.mono az
    replace ae:=ae.mono az
    replace af:=af.mono az
    refine QT (QT (Ab (Rk 0 4 ((tI 72 0)::(JJ t_ e f)) d3 ct fun g1 d4=>?_)))
    refine wf ?_
    obtain⟨cy,cj,H⟩:=A3 H
    refine A7 (fun a' w'=>∃ (c2:Unit)(cc:Array Value)(bn:Ad),a' = ⟨cc,[]⟩∧Kn 99 [(g,0),(i,0)] [] cc∧Ah ⟨w,h,Az⟩ bn [(g,0),(i,0)] [⟨GK p r_ y a d ab ac,some 43⟩,⟨GJ q t_ u s x e f,some 76⟩] [] w'∧Ad.le a5 bn∧cy=.go c2) ?_ ?_
    ·
     refine wp_block ?_
     refine A5 (fun f0 a' w'=>∃ (x_v20:Int)(cd:Array Value)(a3:Ad),a' = ⟨cd,[]⟩∧Kn 99 [(g,0),(i,0)] ((tI 72 x_v20)::(JJ t_ e f)) cd∧Ah ⟨w,h,Az⟩ a3 [(g,0),(i,0)] [⟨GK p r_ y a d ab ac,some 43⟩,⟨GJ q t_ u s x e f,some 76⟩] [] w'∧Ad.le a5 a3∧BF f0 r_ t_ x_v20=some cy) n ?_ ?_
     ·
      exact QY 0 ⟨_,_,rfl,d4.kp,ct,Ad.le_refl _,cj⟩
     ·
      rintro bi _ h3 ⟨x_v20,cd,a3,rfl,d5,b6,aq,z⟩
      clear cj
      obtain _ | bi:=bi
      ·
       rw [BF] at z; cases z
      rw [BF] at z
      replace ag:=ag.mono aq
      replace ah:=ah.mono aq
      replace ai:=ai.mono aq
      replace ad:=ad.mono aq
      replace ae:=ae.mono aq
      replace af:=af.mono aq
      refine QT (Ab (Rk 0 1 ((tB 73 (decide (x_v20<((t_.legs.length:Nat):Int))))::(tI 72 x_v20)::(JJ t_ e f)) d5 b6 fun g2 bx=>?_))
      refine wf (QT (wC (decide (x_v20<((t_.legs.length:Nat):Int))) bx (fun bq=>?_) (fun bq=>?_)))
      ·
       rw [bq,QW] at z
       refine wp_skip (QT (wp_block (QT (Ab ?_))))
       obtain⟨x74,ex74,z⟩:=A3 z
       obtain⟨fd,fj,fw⟩:=Ak ex74
       obtain⟨al,ap,gj,de,fp,dk⟩:=af.get (by decide) fw
       obtain⟨l,m,rfl,b9⟩:=fp
       have a2:=b6.addPlc (b:=al) (o:=ap+(x_v20:Int).toNat*1) (cs:=[.slice l x74.length m]) (fun j c hj=>dk j _ (Al hj)) rfl (by kernel_rfl) (by kernel_rfl)
       refine A6 0 (x_v20) rfl rfl (rfl) rfl (by decide) bx (by rfl) (by rfl) (by rfl) de (by rfl) fd fj (by kernel_rfl) fun f8 (d6:Kn 99 [(g,0),(i,0),(al,ap+(x_v20:Int).toNat*1)] ((tP 74 2 0)::(tB 73 (decide (x_v20<((t_.legs.length:Nat):Int))))::(tI 72 x_v20)::(JJ t_ e f)) f8)=>?_
       refine Rk 1 2 ((tS 8 l x74.length m)::(tI 72 x_v20)::(JJ t_ e f)) d6 a2 fun g3 d7=>?_
       refine wf (QT (QT (Ab (Rk 0 6 ((tB 81 (((x74.length:Nat):Int) != ((r_.legs.length:Nat):Int)))::(tS 8 l x74.length m)::(tI 72 x_v20)::(JJ t_ e f)) d7 a2 fun g4 bz=>?_))))
       refine wf (wC ((((x74.length:Nat):Int) != ((r_.legs.length:Nat):Int))) bz (fun br=>?_) (fun br=>?_))
       ·
        rw [br,QW] at z
        refine QT (Ab (Rk 0 1 [tB 4 false] bz a2 fun g5 d8=>?_))
        refine wf (wp_ret ?_)
        obtain rfl:=QZ z
        obtain rfl:=QZ H
        exact rt (.one (.c (.bool false))) d8 a2 rfl
       ·
        rw [br,QV] at z
        refine wp_skip (QT (Ab (Rk 0 3 ((tI 84 0)::(GL x74 l m x_v20 t_ e f)) bz a2 fun g6 d9=>?_)))
        refine wf ?_
        obtain⟨cz,ck,z⟩:=A3 z
        refine A7 (fun a' w'=>∃ (c3:Unit)(ce:Array Value)(bo:Ad),a' = ⟨ce,[]⟩∧Kn 99 [(g,0),(i,0),(al,ap+(x_v20:Int).toNat*1)] ((tI 72 x_v20)::(JJ t_ e f)) ce∧Ah ⟨w,h,Az⟩ bo [(g,0),(i,0),(al,ap+(x_v20:Int).toNat*1)] [⟨GK p r_ y a d ab ac,some 43⟩,⟨GJ q t_ u s x e f,some 76⟩,⟨[.slice l x74.length m],none⟩] [] w'∧Ad.le a3 bo∧cz=.go c3) ?_ ?_
        ·
         refine wp_block ?_
         refine A5 (fun f1 a' w'=>∃ (x_v30:Int)(cf:Array Value)(bd:Ad),a' = ⟨cf,[]⟩∧Kn 99 [(g,0),(i,0),(al,ap+(x_v20:Int).toNat*1)] ((tI 84 x_v30)::(GL x74 l m x_v20 t_ e f)) cf∧Ah ⟨w,h,Az⟩ bd [(g,0),(i,0),(al,ap+(x_v20:Int).toNat*1)] [⟨GK p r_ y a d ab ac,some 43⟩,⟨GJ q t_ u s x e f,some 76⟩,⟨[.slice l x74.length m],none⟩] [] w'∧Ad.le a3 bd∧BE f1 r_ x74 x_v30=some cz) bi ?_ ?_
         ·
          exact QY 0 ⟨_,_,rfl,d9.kp,a2,Ad.le_refl _,ck⟩
         ·
          rintro bj _ h5 ⟨x_v30,cf,bd,rfl,eb,bf,an,aa⟩
          clear ck
          obtain _ | bj:=bj
          ·
           rw [BE] at aa; cases aa
          rw [BE] at aa
          replace ag:=ag.mono an
          replace ah:=ah.mono an
          replace ai:=ai.mono an
          replace ad:=ad.mono an
          replace ae:=ae.mono an
          replace af:=af.mono an
          replace b9:=b9.mono an
          refine QT (Ab (Rk 0 1 ((tB 85 (decide (x_v30<((x74.length:Nat):Int))))::(tI 84 x_v30)::(GL x74 l m x_v20 t_ e f)) eb bf fun g7 b0=>?_))
          refine wf (QT (wC (decide (x_v30<((x74.length:Nat):Int))) b0 (fun bs=>?_) (fun bs=>?_)))
          ·
           rw [bs,QW] at aa
           refine wp_skip (QT (wp_block (QT (Ab (Rk 0 1 ((tI 86 x_v30)::(tI 84 x_v30)::(GL x74 l m x_v20 t_ e f)) b0 bf fun g8 ec=>?_)))))
           obtain⟨x87,ex87,aa⟩:=A3 aa
           obtain⟨fe,fk,fx⟩:=Ak ex87
           obtain⟨bc,bk,gk,df,fq,dl⟩:=b9.get (by decide) fx
           obtain rfl:=fq
           have b7:=bf.addPlc (b:=bc) (o:=bk+(x_v30:Int).toNat*1) (cs:=[.int .i64 x87]) (fun j c hj=>dl j _ (Al hj)) rfl (by kernel_rfl) (by kernel_rfl)
           refine A6 1 (x_v30) rfl rfl (rfl) rfl (by decide) ec (by rfl) (by rfl) (by rfl) df (by rfl) fe fk (by kernel_rfl) fun f9 (ed:Kn 99 [(g,0),(i,0),(al,ap+(x_v20:Int).toNat*1),(bc,bk+(x_v30:Int).toNat*1)] ((tP 87 3 0)::(tI 86 x_v30)::(tI 84 x_v30)::(GL x74 l m x_v20 t_ e f)) f9)=>?_
           refine Rk 2 3 ((tI 10 x87)::(tI 9 x_v30)::(tI 84 x_v30)::(GL x74 l m x_v20 t_ e f)) ed b7 fun g9 ee=>?_
           refine wf (QT (Ab (Rk 0 3 ((tI 91 x_v30)::(tS 90 p r_.legs.length y)::(tI 10 x87)::(tI 84 x_v30)::(GL x74 l m x_v20 t_ e f)) ee b7 fun ha ef=>?_)))
           obtain⟨x92,ex92,aa⟩:=A3 aa
           obtain⟨ff,fl,fy⟩:=Ak ex92
           obtain⟨bm,cb,gl,dg,fs,dm⟩:=ag.get (by decide) fy
           obtain⟨_,_,rfl,rfl,rfl⟩:=fs
           have b8:=b7.addPlc (b:=bm) (o:=cb+(x_v30:Int).toNat*2) (cs:=[.int .i64 x92.lo,.int .i64 x92.hi]) (fun j c hj=>dm j _ (Al hj)) rfl (by kernel_rfl) (by kernel_rfl)
           refine A6 3 (x_v30) rfl rfl (rfl) rfl (by decide) ef (by rfl) (by rfl) (by rfl) dg (by rfl) ff fl (by kernel_rfl) fun gb (eg:Kn 99 [(g,0),(i,0),(al,ap+(x_v20:Int).toNat*1),(bc,bk+(x_v30:Int).toNat*1),(bm,cb+(x_v30:Int).toNat*2)] ((tP 92 4 0)::(tI 91 x_v30)::(tS 90 p r_.legs.length y)::(tI 10 x87)::(tI 84 x_v30)::(GL x74 l m x_v20 t_ e f)) gb)=>?_
           refine Rk 4 2 ((tI 94 x87)::(tA 93 [.int .i64 x92.lo,.int .i64 x92.hi])::(tI 84 x_v30)::(GL x74 l m x_v20 t_ e f)) eg b8 fun hc eh=>?_
           obtain⟨x95,ex95,aa⟩:=A3 aa
           refine wl fun K hK=>?_
           refine wc [.agg [.int .i64 x92.lo,.int .i64 x92.hi],.c (.int .i64 x87)] eh b8 (DL bj b8.has x92 ((Aa Ac Ac):rep bd x92 _) x87 ex95) fun hy gp h7 da e8 ba=>?_
           obtain rfl:=da
           refine⟨.one (.c (.bool x95)),rfl,fun gc (ej:Kn 99 [(g,0),(i,0),(al,ap+(x_v20:Int).toNat*1),(bc,bk+(x_v30:Int).toNat*1),(bm,cb+(x_v30:Int).toNat*2)] ((tB 95 x95)::(tI 94 x87)::(tA 93 [.int .i64 x92.lo,.int .i64 x92.hi])::(tI 84 x_v30)::(GL x74 l m x_v20 t_ e f)) gc)=>hK _ _ ?_⟩
           refine Rk 7 1 ((tB 96 (!x95))::(tI 84 x_v30)::(GL x74 l m x_v20 t_ e f)) ej ba fun hd b1=>?_
           refine wf (wC ((!x95)) b1 (fun bt=>?_) (fun bt=>?_))
           ·
            rw [bt,QW] at aa
            refine QT (Ab (Rk 0 1 [tB 4 false] b1 ba fun he ek=>?_))
            refine wf (wp_ret ?_)
            obtain rfl:=QZ aa
            obtain rfl:=QZ z
            obtain rfl:=QZ H
            exact rt (.one (.c (.bool false))) ek ba rfl
           ·
            rw [bt,QV] at aa
            refine wp_skip (Ab (Rk 0 2 ((tI 84 (IntKind.i64.wrap (x_v30+1)))::(GL x74 l m x_v20 t_ e f)) b1 ba fun hf el=>?_))
            refine wf ?_
            exact QY bj ⟨Nat.lt_succ_self _,QY (IntKind.i64.wrap (x_v30+1)) ⟨_,_,rfl,(el.keep [84,83,82,72,71,70,2] (by rfl)).cut 3 (by kernel_rfl),ba.cutPl 3 (by kernel_rfl),QU an e8,aa⟩⟩
          ·
           rw [bs,QV] at aa
           refine wp_exit ?_
           obtain rfl:=QZ aa
           exact QY () ⟨_,_,rfl,b0.kp,bf,an,rfl⟩
        ·
         rintro _ h8 ⟨c3,ce,bo,rfl,em,cu,e9,rfl⟩
         rw [Ex.bind_go] at z
         refine Ab (Rk 0 2 ((tI 72 (IntKind.i64.wrap (x_v20+1)))::(JJ t_ e f)) em cu fun hg en=>?_)
         refine wf ?_
         exact QY bi ⟨Nat.lt_succ_self _,QY (IntKind.i64.wrap (x_v20+1)) ⟨_,_,rfl,(en.keep [72,71,70,2] (by rfl)).cut 2 (by kernel_rfl),cu.cutPl 2 (by kernel_rfl),QU aq e9,z⟩⟩
      ·
       rw [bq,QV] at z
       refine wp_exit ?_
       obtain rfl:=QZ z
       exact QY () ⟨_,_,rfl,bx.kp,b6,aq,rfl⟩
    ·
     rintro _ h9 ⟨c2,cc,bn,rfl,eo,cv,gq,rfl⟩
     rw [Ex.bind_go] at H
     refine QT (Ab (Rk 0 1 [tB 4 true] eo cv fun hn ep=>?_))
     refine wf (wp_ret ?_)
     obtain rfl:=QZ H
     exact rt (.one (.c (.bool true))) ep cv rfl
abbrev L4 (x69:AP):List SC:=[.int .i64 x69.stop,.int .i64 x69.tm]
abbrev NN (x69:AP):List SC:=[.int .i64 x69.stop,.int .i64 x69.tm,.int .i64 (-1)]
abbrev HN (x17:Ct):List SC:=[.int .i64 x17.stop,.int .i64 x17.tm.lo,.int .i64 x17.tm.hi]
abbrev FG (aj:Option Addr) (t_:AB) (ao:Nat) (ak:Option Addr) (ap:Nat) (ab:Option Addr) (ac:Nat):List SC:=[.slice aj t_.tm.length ao,.slice ak t_.turns.length ap,.slice ab t_.legs.length ac]
abbrev NO (x17:Ct) (x25 x31:Int) (w_:AC) (x42:Int):List SC:=[.int .i64 x17.stop,.int .i64 (IntKind.i64.wrap (x25+(IntKind.i64.wrap (x31*w_.route.unit)))),.int .i64 x42]
abbrev NP (k l ae af:Nat) (x_v12:Int) (aq aw ax ay az a0 a1:Nat):AG:=[(k,0),(l,0),(ae,af+(x_v12:Int).toNat*3),(aq,0),(aw,ax+(x_v12:Int).toNat*1),(ay,az+(x_v12:Int).toNat*1),(a0,a1+(x_v12:Int).toNat*1)]
abbrev OP (k l a5 a9:Nat) (x_v22:Int) (bd bf bi bx b1:Nat) (w_:AC):AG:=[(k,0),(l,0),(a5,a9+(x_v22:Int).toNat*2),(bd,0),(bf,bi+(x_v22:Int).toNat*1),(bx,b1+(IntKind.i64.wrap (((w_.route.buses.length:Nat):Int)+x_v22):Int).toNat*1)]
abbrev OQ (k l ae af:Nat) (x_v12:Int) (aq aw ax ay az a0 a1 bp bs bw b0:Nat):AG:=[(k,0),(l,0),(ae,af+(x_v12:Int).toNat*3),(aq,0),(aw,ax+(x_v12:Int).toNat*1),(ay,az+(x_v12:Int).toNat*1),(a0,a1+(x_v12:Int).toNat*1),(bp,bs+(x_v12:Int).toNat*1),(bw,b0+(x_v12:Int).toNat*1)]
abbrev FH (au:Option Addr) (w_:AC) (av:Nat) (d:Option Addr) (e:Nat) (f:Option Addr) (g:Nat) (ag:Option Addr) (al:Nat) (ah:Option Addr) (am:Nat) (ai:Option Addr) (an:Nat):List SC:=[.slice au w_.route.legs.length av,.int .i64 w_.route.turn.lo,.int .i64 w_.route.turn.hi,.slice d w_.route.buses.length e,.slice f w_.route.spares.length g,.int .i64 w_.route.unit,.int .i64 w_.route.gap,.int .i64 w_.route.fr,.int .i64 w_.route.to_,.slice ag w_.acts.holds.length al,.slice ah w_.acts.turns.length am,.slice ai w_.acts.spares.length an]
abbrev Fi (w_:AC) (f:Option Addr) (g:Nat) (q:Option Addr) (x_v21:List A9) (s:Nat) (z:Option Addr) (x_v20:List Bm) (aa:Nat):TM:=[tI 65 ((w_.route.spares.length:Nat):Int),tS 64 f w_.route.spares.length g,tS 5 q x_v21.length s,tS 4 z x_v20.length aa,tP 3 1 0,tP 2 0 0]
abbrev G3 (u:Option Addr) (x_v10:List Bm) (x:Nat) (x_v12:Int) (w_:AC) (d:Option Addr) (e:Nat) (m:Option Addr) (x_v11:List A9) (p:Nat):TM:=[tS 19 u x_v10.length x,tI 6 x_v12,tI 14 x_v12,tI 13 ((w_.route.buses.length:Nat):Int),tS 12 d w_.route.buses.length e,tS 5 m x_v11.length p,tP 3 1 0,tP 2 0 0]
abbrev Hw (x_v12:Int) (w_:AC) (d:Option Addr) (e:Nat) (m:Option Addr) (x_v11:List A9) (p:Nat) (u:Option Addr) (x_v10:List Bm) (x:Nat):TM:=[tI 14 x_v12,tI 13 ((w_.route.buses.length:Nat):Int),tS 12 d w_.route.buses.length e,tS 5 m x_v11.length p,tS 4 u x_v10.length x,tP 3 1 0,tP 2 0 0]
abbrev Hx (x_v12:Int) (w_:AC) (d:Option Addr) (e:Nat):TM:=[tI 14 x_v12,tI 13 ((w_.route.buses.length:Nat):Int),tS 12 d w_.route.buses.length e,tP 3 1 0,tP 2 0 0]
abbrev KN (q:Option Addr) (x_v21:List A9) (s:Nat) (a4:Option Addr) (x84:List Bm) (a8:Nat) (x_v22:Int) (w_:AC) (f:Option Addr) (g:Nat):TM:=[tS 85 q x_v21.length s,tS 4 a4 x84.length a8,tI 66 x_v22,tI 65 ((w_.route.spares.length:Nat):Int),tS 64 f w_.route.spares.length g,tP 3 1 0,tP 2 0 0]
abbrev Mn (x_v22:Int) (w_:AC) (f:Option Addr) (g:Nat) (q:Option Addr) (x_v21:List A9) (s:Nat):TM:=[tI 8 x_v22,tI 66 x_v22,tI 65 ((w_.route.spares.length:Nat):Int),tS 64 f w_.route.spares.length g,tS 5 q x_v21.length s,tP 3 1 0,tP 2 0 0]
set_option maxRecDepth 100000 in
set_option maxHeartbeats 4000000 in
theorem Df (n:Nat) {h:Ad} {w:World} (hh:Dv h w) (w_:AC) {cs_w_:List Value} (hx_w_:rep h w_ cs_w_) (t_:AB) {cs_t_:List Value} (hx_t_:rep h t_ cs_t_) {r:(List Bm)×(List A9)} (H:Ch n w_ t_=some r) :
  Calls Try.prog 93 #[.agg cs_w_.toArray,.agg cs_t_.toArray] w (D6 (fun h v=>∃ v0 v1,v=.tuple #[v0,v1]∧(∃ a c,v0=.slice a r.1.length c∧Ar h a c r.1)∧(∃ a c,v1=.slice a r.2.length c∧Ar h a c r.2)) h w):=by
 obtain⟨_,_,rfl,⟨_,_,rfl,⟨au,av,rfl,ei⟩,⟨_,_,rfl,⟨_,_,rfl,rfl,rfl⟩,⟨_,_,rfl,⟨d,e,rfl,ch⟩,⟨_,_,rfl,⟨f,g,rfl,ci⟩,⟨_,_,rfl,rfl,⟨_,_,rfl,rfl,⟨_,_,rfl,rfl,rfl⟩⟩⟩⟩⟩⟩⟩,⟨_,_,rfl,⟨ag,al,rfl,cc⟩,⟨_,_,rfl,⟨ah,am,rfl,cd⟩,⟨ai,an,rfl,ce⟩⟩⟩⟩:=hx_w_
 obtain⟨_,_,rfl,⟨aj,ao,rfl,cf⟩,⟨_,_,rfl,⟨ak,ap,rfl,cg⟩,⟨ab,ac,rfl,bo⟩⟩⟩:=hx_t_
 refine enter 102 [.agg (FH au w_ av d e f g ag al ah am ai an),.agg (FG aj t_ ao ak ap ab ac)] Try.func93 rfl rfl rfl rfl fun t hk=>?_
 have hm:=Ah.begin h w hh
 unfold Ch at H
 refine QT (Ab (wl fun K hK=>?_))
 refine wb (.agg (FH au w_ av d e f g ag al ah am ai an)) hk hm fun k i9 kw (gl:Kn 102 [(k,0)] [tP 2 0 0,tA 0 (FH au w_ av d e f g ag al ah am ai an),tA 1 (FG aj t_ ao ak ap ab ac)] i9) hc=>hK _ _ ?_
 refine wl fun K hK=>?_
 refine wb (.agg (FG aj t_ ao ak ap ab ac)) gl hc fun l jd ej (gu:Kn 102 [(k,0),(l,0)] [tP 3 1 0,tP 2 0 0,tA 0 (FH au w_ av d e f g ag al ah am ai an),tA 1 (FG aj t_ ao ak ap ab ac)] jd) dg=>hK _ _ ?_
 refine Rk 2 2 [tS 5 none 0 0,tS 4 none 0 0,tP 3 1 0,tP 2 0 0] gu dg fun kh g1=>?_
 refine wf (QT (QT (Ab (Rk 0 5 [tI 14 0,tI 13 ((w_.route.buses.length:Nat):Int),tS 12 d w_.route.buses.length e,tS 5 none 0 0,tS 4 none 0 0,tP 3 1 0,tP 2 0 0] g1 dg fun ki g2=>?_))))
 refine wf ?_
 have hd:Ah ⟨w,h,Az⟩ h [(k,0),(l,0)] [⟨FH au w_ av d e f g ag al ah am ai an,some 115⟩,⟨FG aj t_ ao ak ap ab ac,some 76⟩] [⟨none,0,0,153,3,[],0⟩] ej:=dg.nilRow 153 3
 have fb:Af h ([]:List Bm) []:=Af.nil
 have he:Ah ⟨w,h,Az⟩ h [(k,0),(l,0)] [⟨FH au w_ av d e f g ag al ah am ai an,some 115⟩,⟨FG aj t_ ao ak ap ab ac,some 76⟩] [⟨none,0,0,153,3,[],0⟩,⟨none,0,0,158,2,[],0⟩] ej:=hd.nilRow 158 2
 have fc:Af h ([]:List A9) []:=Af.nil
 obtain⟨bc,d0,H⟩:=A3 H
 refine A7 (fun a' w'=>∃ (b5:Option Addr)(b7:Nat)(ct:List Value)(b6:Option Addr)(b8:Nat)(cu:List Value)(dt:Array Value)(bq:Ad),a' = ⟨dt,[]⟩∧Kn 102 [(k,0),(l,0)] [tS 5 b6 bc.2.length b8,tS 4 b5 bc.1.length b7,tP 3 1 0,tP 2 0 0] dt∧Ah ⟨w,h,Az⟩ bq [(k,0),(l,0)] [⟨FH au w_ av d e f g ag al ah am ai an,some 115⟩,⟨FG aj t_ ao ak ap ab ac,some 76⟩] [⟨b5,bc.1.length,b7,153,3,ct,0⟩,⟨b6,bc.2.length,b8,158,2,cu,0⟩] w'∧Ad.le h bq∧Af bq bc.1 ct∧Af bq bc.2 cu) ?_ ?_
 ·
  refine wp_block ?_
  refine A5 (fun iv a' w'=>∃ (x_v10:List Bm)(x_v11:List A9)(x_v12:Int)(u:Option Addr)(x:Nat)(b3:List Value)(m:Option Addr)(p:Nat)(b4:List Value)(du:Array Value)(bb:Ad),a' = ⟨du,[]⟩∧Kn 102 [(k,0),(l,0)] (Hw x_v12 w_ d e m x_v11 p u x_v10 x) du∧Ah ⟨w,h,Az⟩ bb [(k,0),(l,0)] [⟨FH au w_ av d e f g ag al ah am ai an,some 115⟩,⟨FG aj t_ ao ak ap ab ac,some 76⟩] [⟨u,x_v10.length,x,153,3,b3,0⟩,⟨m,x_v11.length,p,158,2,b4,0⟩] w'∧Ad.le h bb∧Af bb x_v10 b3∧Af bb x_v11 b4∧Bz iv w_ t_ x_v10 x_v11 x_v12=some bc) n ?_ ?_
  ·
   exact QY ([]:List Bm) ⟨([]:List A9),0,none,0,[],none,0,[],_,_,rfl,g2.kp,he,Ad.le_refl _,fb,fc,d0⟩
  ·
   rintro dq _ k1 ⟨x_v10,x_v11,x_v12,u,x,b3,m,p,b4,du,bb,rfl,g3,cq,bn,d3,d4,y⟩
   clear d0
   obtain _ | dq:=dq
   ·
    rw [Bz] at y; cases y
   rw [Bz] at y
   replace ch:=ch.mono bn
   replace cc:=cc.mono bn
   replace cd:=cd.mono bn
   replace cf:=cf.mono bn
   replace cg:=cg.mono bn
   replace bo:=bo.mono bn
   refine QT (Ab (Rk 0 1 ((tB 15 (decide (x_v12<((w_.route.buses.length:Nat):Int))))::(Hw x_v12 w_ d e m x_v11 p u x_v10 x)) g3 cq fun kj c8=>?_))
   refine wf (QT (wC (decide (x_v12<((w_.route.buses.length:Nat):Int))) c8 (fun cx=>?_) (fun cx=>?_)))
   ·
    rw [cx,QW] at y
    refine wp_skip (QT (wp_block (QT (Ab (Rk 0 1 ((tI 16 x_v12)::(Hw x_v12 w_ d e m x_v11 p u x_v10 x)) c8 cq fun kk g4=>?_)))))
    obtain⟨x17,ex17,y⟩:=A3 y
    obtain⟨hs,h1,ir⟩:=Ak ex17
    obtain⟨ae,af,jr,ey,ih,ff⟩:=ch.get (by decide) ir
    obtain⟨_,_,rfl,rfl,⟨_,_,rfl,rfl,rfl⟩⟩:=ih
    have eg:=cq.addPlc (b:=ae) (o:=af+(x_v12:Int).toNat*3) (cs:=(HN x17)) (fun j c hj=>ff j _ (Al hj)) rfl (by kernel_rfl) (by kernel_rfl)
    refine A6 1 (x_v12) rfl rfl (rfl) rfl (by decide) g4 (by rfl) (by rfl) (by rfl) ey (by rfl) hs h1 (by kernel_rfl) fun jh (g5:Kn 102 [(k,0),(l,0),(ae,af+(x_v12:Int).toNat*3)] ((tP 17 2 0)::(tI 16 x_v12)::(Hw x_v12 w_ d e m x_v11 p u x_v10 x)) jh)=>?_
    refine Rk 2 1 ((tA 18 (HN x17))::(tI 16 x_v12)::(Hw x_v12 w_ d e m x_v11 p u x_v10 x)) g5 eg fun kl g6=>?_
    refine wl fun K hK=>?_
    refine wa [.int .i64 0,.int .i64 0,.int .i64 0] g6 eg fun aq ji k2 (g7:Kn 102 [(k,0),(l,0),(ae,af+(x_v12:Int).toNat*3),(aq,0)] ((tP 7 3 0)::(tA 18 (HN x17))::(tI 16 x_v12)::(Hw x_v12 w_ d e m x_v11 p u x_v10 x)) ji) eh=>hK _ _ ?_
    refine Rk 4 1 ((tI 6 x_v12)::(tP 7 3 0)::(tA 18 (HN x17))::(Hw x_v12 w_ d e m x_v11 p u x_v10 x)) g7 eh fun iw fk=>?_
    refine wl fun K hK=>?_
    refine Ea 3 0 (.agg (HN x17)) (HN x17) fk eh fun km fl ca=>hK _ _ ?_
    have fm:Kn 102 [(k,0),(l,0),(ae,af+(x_v12:Int).toNat*3),(aq,0)] ((tI 6 x_v12)::(tP 7 3 0)::(Hw x_v12 w_ d e m x_v11 p u x_v10 x)) iw:=fl.kp
    refine wf (QT (Ao (by kernel_rfl) ?_))
    replace ca:=ca.drew
    refine At [] [(k,0),(l,0),(ae,af+(x_v12:Int).toNat*3),(aq,0)] [⟨FH au w_ av d e f g ag al ah am ai an,some 115⟩,⟨FG aj t_ ao ak ap ab ac,some 76⟩,⟨HN x17,none⟩,⟨HN x17,some 96⟩] ?_
    refine Dr [0,1,2,3,4,5] (dn 5) ((tI 24 x_v12)::(tS 23 aj t_.tm.length ao)::(tI 21 x17.stop)::(G3 u x_v10 x x_v12 w_ d e m x_v11 p)) fm ca fun jt fn=>?_
    obtain⟨x25,ex25,y⟩:=A3 y
    obtain⟨hf,ht,ii⟩:=Ak ex25
    obtain⟨aw,ax,jj,ep,h7,ez⟩:=cf.get (by decide) ii
    obtain rfl:=h7
    have c9:=ca.addPlc (b:=aw) (o:=ax+(x_v12:Int).toNat*1) (cs:=[.int .i64 x25]) (fun j c hj=>ez j _ (Al hj)) rfl (by kernel_rfl) (by kernel_rfl)
    refine AY 6 (x_v12) [.int .i64 x25] (fun _ _ _ _ _ h=>h) rfl rfl (rfl) rfl (by decide) (by kernel_rfl) (by kernel_rfl) fn ca.plOk (by rfl) (by rfl) (by rfl) ep (by rfl) hf ht (by kernel_rfl) fun ix (fo:Kn 102 [(k,0),(l,0),(ae,af+(x_v12:Int).toNat*3),(aq,0),(aw,ax+(x_v12:Int).toNat*1)] ((tP 25 4 0)::(tI 24 x_v12)::(tS 23 aj t_.tm.length ao)::(tI 21 x17.stop)::(G3 u x_v10 x x_v12 w_ d e m x_v11 p)) ix)=>?_
    refine Dr [7,8,9,10,11] (dn 11) ((tI 30 x_v12)::(tS 29 ag w_.acts.holds.length al)::(tI 26 x25)::(tI 21 x17.stop)::(G3 u x_v10 x x_v12 w_ d e m x_v11 p)) fo c9 fun ju fp=>?_
    obtain⟨x31,ex31,y⟩:=A3 y
    obtain⟨hg,hu,ij⟩:=Ak ex31
    obtain⟨ay,az,jk,er,h8,e0⟩:=cc.get (by decide) ij
    obtain rfl:=h8
    have da:=c9.addPlc (b:=ay) (o:=az+(x_v12:Int).toNat*1) (cs:=[.int .i64 x31]) (fun j c hj=>e0 j _ (Al hj)) rfl (by kernel_rfl) (by kernel_rfl)
    refine AY 12 (x_v12) [.int .i64 x31] (fun _ _ _ _ _ h=>h) rfl rfl (rfl) rfl (by decide) (by kernel_rfl) (by kernel_rfl) fp c9.plOk (by rfl) (by rfl) (by rfl) er (by rfl) hg hu (by kernel_rfl) fun iy (fq:Kn 102 [(k,0),(l,0),(ae,af+(x_v12:Int).toNat*3),(aq,0),(aw,ax+(x_v12:Int).toNat*1),(ay,az+(x_v12:Int).toNat*1)] ((tP 31 5 0)::(tI 30 x_v12)::(tS 29 ag w_.acts.holds.length al)::(tI 26 x25)::(tI 21 x17.stop)::(G3 u x_v10 x x_v12 w_ d e m x_v11 p)) iy)=>?_
    refine Dr [13,14,15,16,17,18,19,20,21,22] (dn 22) ((tI 41 x_v12)::(tS 40 ah w_.acts.turns.length am)::(tI 37 (IntKind.i64.wrap (x25+(IntKind.i64.wrap (x31*w_.route.unit)))))::(tI 21 x17.stop)::(G3 u x_v10 x x_v12 w_ d e m x_v11 p)) fq da fun jv fs=>?_
    obtain⟨x42,ex42,y⟩:=A3 y
    obtain⟨hl,hv,ik⟩:=Ak ex42
    obtain⟨a0,a1,jl,es,h9,e1⟩:=cd.get (by decide) ik
    obtain rfl:=h9
    have d7:=da.addPlc (b:=a0) (o:=a1+(x_v12:Int).toNat*1) (cs:=[.int .i64 x42]) (fun j c hj=>e1 j _ (Al hj)) rfl (by kernel_rfl) (by kernel_rfl)
    refine AY 23 (x_v12) [.int .i64 x42] (fun _ _ _ _ _ h=>h) rfl rfl (rfl) rfl (by decide) (by kernel_rfl) (by kernel_rfl) fs da.plOk (by rfl) (by rfl) (by rfl) es (by rfl) hl hv (by kernel_rfl) fun iz (ft:Kn 102 (NP k l ae af x_v12 aq aw ax ay az a0 a1) ((tP 42 6 0)::(tI 41 x_v12)::(tS 40 ah w_.acts.turns.length am)::(tI 37 (IntKind.i64.wrap (x25+(IntKind.i64.wrap (x31*w_.route.unit)))))::(tI 21 x17.stop)::(G3 u x_v10 x x_v12 w_ d e m x_v11 p)) iz)=>?_
    refine Dr [24,25] (dn 25) ((tA 44 (NO x17 x25 x31 w_ x42))::(G3 u x_v10 x x_v12 w_ d e m x_v11 p)) ft d7 fun jw fu=>?_
    refine Dl 26 fun K hK=>?_
    refine wS 153 3 (NO x17 x25 x31 w_ x42) fu d7 fun dv i0 kn (fv:Kn 102 (NP k l ae af x_v12 aq aw ax ay az a0 a1) ((tS 45 dv 1 1)::(tA 44 (NO x17 x25 x31 w_ x42))::(G3 u x_v10 x x_v12 w_ d e m x_v11 p)) i0) db=>?_
    have cy:Af bb ([Bm.mk x17.stop (IntKind.i64.wrap (x25+(IntKind.i64.wrap (x31*w_.route.unit)))) x42]:List Bm) ([.int .i64 x17.stop,.int .i64 (IntKind.i64.wrap (x25+(IntKind.i64.wrap (x31*w_.route.unit)))),.int .i64 x42]:List Value):=⟨_,_,rfl,((Aa Ac (Aa Ac Ac)):rep bb ((Bm.mk x17.stop (IntKind.i64.wrap (x25+(IntKind.i64.wrap (x31*w_.route.unit)))) x42):Bm) _),rfl⟩
    refine hK _ _ db.plOk ?_
    obtain⟨x46,ex46,y⟩:=A3 y
    obtain⟨dk,g8⟩:=BZ ex46
    refine Dl 27 fun K hK=>?_
    refine Bs 0 24 1 _ (x46.length) _ ([.int .i64 x17.stop,.int .i64 (IntKind.i64.wrap (x25+(IntKind.i64.wrap (x31*w_.route.unit)))),.int .i64 x42]:List Value) fv db rfl rfl (by decide) rfl (by rfl) (by kernel_rfl) (by rfl) (by rfl) (Af.len cy) (db.rowCell (i:=2) rfl) cy.one (by rw [dk]; simp <;> omega) (by rw [dk]; exact g8) (by decide) fun a2 a6 el i1 ko fg (fw:Kn 102 (NP k l ae af x_v12 aq aw ax ay az a0 a1) ((tS 46 a2 x46.length a6)::(tS 45 dv 1 1)::(tA 44 (NO x17 x25 x31 w_ x42))::(G3 u x_v10 x x_v12 w_ d e m x_v11 p)) i1) br=>?_
    have e2:Af bb x46 (b3++([.int .i64 x17.stop,.int .i64 (IntKind.i64.wrap (x25+(IntKind.i64.wrap (x31*w_.route.unit)))),.int .i64 x42]:List Value)):=by rw [dk]; exact Af.append d3 cy
    obtain rfl:el=0:=Nat.le_zero.1 fg
    refine hK _ _ br.plOk ?_
    refine Dr [28] (dn 28) [tS 4 a2 x46.length a6,tI 6 x_v12,tI 14 x_v12,tI 13 ((w_.route.buses.length:Nat):Int),tS 12 d w_.route.buses.length e,tS 5 m x_v11.length p,tP 3 1 0,tP 2 0 0] fw br fun jx fx=>?_
    refine AH (by kernel_rfl) (Ao (by kernel_rfl) ?_)
    replace br:=br.drew
    refine At [] (NP k l ae af x_v12 aq aw ax ay az a0 a1) [⟨FH au w_ av d e f g ag al ah am ai an,some 115⟩,⟨FG aj t_ ao ak ap ab ac,some 76⟩,⟨HN x17,none⟩,⟨HN x17,some 96⟩,⟨[.int .i64 x25],none⟩,⟨[.int .i64 x31],none⟩,⟨[.int .i64 x42],none⟩] ?_
    refine Dr [0,1,2,3] (dn 3) ((tI 50 x_v12)::(tS 49 ab t_.legs.length ac)::(tS 47 m x_v11.length p)::(tS 4 a2 x46.length a6)::(tI 6 x_v12)::(Hx x_v12 w_ d e)) fx br fun jy fy=>?_
    obtain⟨x51,ex51,y⟩:=A3 y
    obtain⟨hn,hw,il⟩:=Ak ex51
    obtain⟨bp,bs,jm,et,ia,e3⟩:=bo.get (by decide) il
    obtain⟨a3,a7,rfl,h2⟩:=ia
    have dc:=br.addPlc (b:=bp) (o:=bs+(x_v12:Int).toNat*1) (cs:=[.slice a3 x51.length a7]) (fun j c hj=>e3 j _ (Al hj)) rfl (by kernel_rfl) (by kernel_rfl)
    refine AY 4 (x_v12) [.slice a3 x51.length a7] (fun _ _ _ _ _ h=>h) rfl rfl (rfl) rfl (by decide) (by kernel_rfl) (by kernel_rfl) fy br.plOk (by rfl) (by rfl) (by rfl) et (by rfl) hn hw (by kernel_rfl) fun i2 (fz:Kn 102 [(k,0),(l,0),(ae,af+(x_v12:Int).toNat*3),(aq,0),(aw,ax+(x_v12:Int).toNat*1),(ay,az+(x_v12:Int).toNat*1),(a0,a1+(x_v12:Int).toNat*1),(bp,bs+(x_v12:Int).toNat*1)] ((tP 51 7 0)::(tI 50 x_v12)::(tS 49 ab t_.legs.length ac)::(tS 47 m x_v11.length p)::(tS 4 a2 x46.length a6)::(tI 6 x_v12)::(Hx x_v12 w_ d e)) i2)=>?_
    refine Dr [5,6,7,8] (dn 8) ((tI 55 x_v12)::(tS 54 ak t_.turns.length ap)::(tS 52 a3 x51.length a7)::(tS 47 m x_v11.length p)::(tS 4 a2 x46.length a6)::(Hx x_v12 w_ d e)) fz dc fun jz f0=>?_
    obtain⟨x56,ex56,y⟩:=A3 y
    obtain⟨ho,hx,im⟩:=Ak ex56
    obtain⟨bw,b0,jn,eu,ib,e4⟩:=cg.get (by decide) im
    obtain rfl:=ib
    have d8:=dc.addPlc (b:=bw) (o:=b0+(x_v12:Int).toNat*1) (cs:=[.int .i64 x56]) (fun j c hj=>e4 j _ (Al hj)) rfl (by kernel_rfl) (by kernel_rfl)
    refine AY 9 (x_v12) [.int .i64 x56] (fun _ _ _ _ _ h=>h) rfl rfl (rfl) rfl (by decide) (by kernel_rfl) (by kernel_rfl) f0 dc.plOk (by rfl) (by rfl) (by rfl) eu (by rfl) ho hx (by kernel_rfl) fun i3 (f1:Kn 102 (OQ k l ae af x_v12 aq aw ax ay az a0 a1 bp bs bw b0) ((tP 56 8 0)::(tI 55 x_v12)::(tS 54 ak t_.turns.length ap)::(tS 52 a3 x51.length a7)::(tS 47 m x_v11.length p)::(tS 4 a2 x46.length a6)::(Hx x_v12 w_ d e)) i3)=>?_
    refine Dr [10,11] (dn 11) ((tA 58 [.slice a3 x51.length a7,.int .i64 x56])::(tS 47 m x_v11.length p)::(tS 4 a2 x46.length a6)::(Hx x_v12 w_ d e)) f1 d8 fun j0 f2=>?_
    refine Dl 12 fun K hK=>?_
    refine wS 158 2 [.slice a3 x51.length a7,.int .i64 x56] f2 d8 fun dw i4 kq (f3:Kn 102 (OQ k l ae af x_v12 aq aw ax ay az a0 a1 bp bs bw b0) ((tS 59 dw 1 1)::(tA 58 [.slice a3 x51.length a7,.int .i64 x56])::(tS 47 m x_v11.length p)::(tS 4 a2 x46.length a6)::(Hx x_v12 w_ d e)) i4) dd=>?_
    have cz:Af bb ([A9.mk x51 x56]:List A9) ([.slice a3 x51.length a7,.int .i64 x56]:List Value):=⟨_,_,rfl,((Aa (Ae h2) Ac):rep bb ((A9.mk x51 x56):A9) _),rfl⟩
    refine hK _ _ dd.plOk ?_
    obtain⟨x60,ex60,y⟩:=A3 y
    obtain⟨dl,g9⟩:=BZ ex60
    refine Dl 13 fun K hK=>?_
    refine Bs 1 32 1 _ (x60.length) _ ([.slice a3 x51.length a7,.int .i64 x56]:List Value) f3 dd rfl rfl (by decide) rfl (by rfl) (by kernel_rfl) (by rfl) (by rfl) (Af.len cz) (dd.rowCell (i:=3) rfl) cz.one (by rw [dl]; simp <;> omega) (by rw [dl]; exact g9) (by decide) fun cj cl em i5 kr fh (f4:Kn 102 (OQ k l ae af x_v12 aq aw ax ay az a0 a1 bp bs bw b0) ((tS 60 cj x60.length cl)::(tS 59 dw 1 1)::(tA 58 [.slice a3 x51.length a7,.int .i64 x56])::(tS 47 m x_v11.length p)::(tS 4 a2 x46.length a6)::(Hx x_v12 w_ d e)) i5) cn=>?_
    have e5:Af bb x60 (b4++([.slice a3 x51.length a7,.int .i64 x56]:List Value)):=by rw [dl]; exact Af.append d4 cz
    obtain rfl:em=0:=Nat.le_zero.1 fh
    refine hK _ _ cn.plOk ?_
    refine Dr [14] (dn 14) ((tS 5 cj x60.length cl)::(tS 4 a2 x46.length a6)::(Hx x_v12 w_ d e)) f4 cn fun j1 f5=>?_
    refine AH (by kernel_rfl) (Ab (Rk 0 2 [tI 14 (IntKind.i64.wrap (x_v12+1)),tS 5 cj x60.length cl,tS 4 a2 x46.length a6,tI 13 ((w_.route.buses.length:Nat):Int),tS 12 d w_.route.buses.length e,tP 3 1 0,tP 2 0 0] f5 cn fun j2 f6=>?_))
    refine wf ?_
    exact QY dq ⟨Nat.lt_succ_self _,QY x46 ⟨x60,IntKind.i64.wrap (x_v12+1),a2,a6,b3++([.int .i64 x17.stop,.int .i64 (IntKind.i64.wrap (x25+(IntKind.i64.wrap (x31*w_.route.unit)))),.int .i64 x42]:List Value),cj,cl,b4++([.slice a3 x51.length a7,.int .i64 x56]:List Value),_,_,rfl,(f6.keep [14,13,12,5,4,3,2] (by rfl)).cut 2 (by kernel_rfl),(cn.cutRw 2).cutPl 2 (by kernel_rfl),bn,e2,e5,y⟩⟩
   ·
    rw [cx,QV] at y
    refine wp_exit ?_
    obtain rfl:=QZ y
    exact QY u ⟨x,b3,m,p,b4,_,_,rfl,c8.kp,cq,bn,d3,d4⟩
 ·
  rintro _ ks ⟨b5,b7,ct,b6,b8,cu,dt,bq,rfl,f7,d9,bh,fd,fe⟩
  replace ei:=ei.mono bh
  replace ch:=ch.mono bh
  replace ci:=ci.mono bh
  replace cc:=cc.mono bh
  replace cd:=cd.mono bh
  replace ce:=ce.mono bh
  replace cf:=cf.mono bh
  replace cg:=cg.mono bh
  replace bo:=bo.mono bh
  refine QT (QT (Ab (Rk 0 5 [tI 66 0,tI 65 ((w_.route.spares.length:Nat):Int),tS 64 f w_.route.spares.length g,tS 5 b6 bc.2.length b8,tS 4 b5 bc.1.length b7,tP 3 1 0,tP 2 0 0] f7 d9 fun j3 f8=>?_)))
  refine wf ?_
  obtain⟨ar,dz,H⟩:=A3 H
  refine A7 (fun a' w'=>∃ (bj:Option Addr)(bl:Nat)(bv:List Value)(bk:Option Addr)(bm:Nat)(b2:List Value)(dr:Array Value)(b9:Ad),a' = ⟨dr,[]⟩∧Kn 102 [(k,0),(l,0)] [tS 5 bk ar.2.length bm,tS 4 bj ar.1.length bl] dr∧Ah ⟨w,h,Az⟩ b9 [(k,0),(l,0)] [⟨FH au w_ av d e f g ag al ah am ai an,some 115⟩,⟨FG aj t_ ao ak ap ab ac,some 76⟩] [⟨bj,ar.1.length,bl,153,3,bv,0⟩,⟨bk,ar.2.length,bm,158,2,b2,0⟩] w'∧Ad.le bq b9∧Af b9 ar.1 bv∧Af b9 ar.2 b2) ?_ ?_
  ·
   refine wp_block ?_
   refine A5 (fun iu a' w'=>∃ (x_v20:List Bm)(x_v21:List A9)(x_v22:Int)(z:Option Addr)(aa:Nat)(bt:List Value)(q:Option Addr)(s:Nat)(bu:List Value)(ds:Array Value)(ba:Ad),a' = ⟨ds,[]⟩∧Kn 102 [(k,0),(l,0)] ((tI 66 x_v22)::(Fi w_ f g q x_v21 s z x_v20 aa)) ds∧Ah ⟨w,h,Az⟩ ba [(k,0),(l,0)] [⟨FH au w_ av d e f g ag al ah am ai an,some 115⟩,⟨FG aj t_ ao ak ap ab ac,some 76⟩] [⟨z,x_v20.length,aa,153,3,bt,0⟩,⟨q,x_v21.length,s,158,2,bu,0⟩] w'∧Ad.le bq ba∧Af ba x_v20 bt∧Af ba x_v21 bu∧Bh iu w_ t_ x_v20 x_v21 x_v22=some ar) n ?_ ?_
   ·
    exact QY bc.1 ⟨bc.2,0,b5,b7,ct,b6,b8,cu,_,_,rfl,f8.kp,d9,Ad.le_refl _,fd,fe,dz⟩
   ·
    rintro cr _ kt ⟨x_v20,x_v21,x_v22,z,aa,bt,q,s,bu,ds,ba,rfl,f9,co,bz,c0,c1,ad⟩
    clear dz
    obtain _ | cr:=cr
    ·
     rw [Bh] at ad; cases ad
    rw [Bh] at ad
    replace ci:=ci.mono bz
    replace ce:=ce.mono bz
    replace bo:=bo.mono bz
    refine QT (Ab (Rk 0 1 ((tB 67 (decide (x_v22<((w_.route.spares.length:Nat):Int))))::(tI 66 x_v22)::(Fi w_ f g q x_v21 s z x_v20 aa)) f9 co fun j4 c6=>?_))
    refine wf (QT (wC (decide (x_v22<((w_.route.spares.length:Nat):Int))) c6 (fun cv=>?_) (fun cv=>?_)))
    ·
     rw [cv,QW] at ad
     refine wp_skip (QT (wp_block (QT (Ab (Rk 0 1 ((tI 68 x_v22)::(tI 66 x_v22)::(Fi w_ f g q x_v21 s z x_v20 aa)) c6 co fun j5 ga=>?_)))))
     obtain⟨x69,ex69,ad⟩:=A3 ad
     obtain⟨hp,hy,io⟩:=Ak ex69
     obtain⟨a5,a9,jo,ev,ic,e6⟩:=ci.get (by decide) io
     obtain⟨_,_,rfl,rfl,rfl⟩:=ic
     have ea:=co.addPlc (b:=a5) (o:=a9+(x_v22:Int).toNat*2) (cs:=(L4 x69)) (fun j c hj=>e6 j _ (Al hj)) rfl (by kernel_rfl) (by kernel_rfl)
     refine A6 1 (x_v22) rfl rfl (rfl) rfl (by decide) ga (by rfl) (by rfl) (by rfl) ev (by rfl) hp hy (by kernel_rfl) fun i6 (gb:Kn 102 [(k,0),(l,0),(a5,a9+(x_v22:Int).toNat*2)] ((tP 69 2 0)::(tI 68 x_v22)::(tI 66 x_v22)::(Fi w_ f g q x_v21 s z x_v20 aa)) i6)=>?_
     refine Rk 2 1 ((tA 70 (L4 x69))::(tI 68 x_v22)::(tI 66 x_v22)::(Fi w_ f g q x_v21 s z x_v20 aa)) gb ea fun j6 gc=>?_
     refine wl fun K hK=>?_
     refine wa [.int .i64 0,.int .i64 0] gc ea fun bd i7 ku (gd:Kn 102 [(k,0),(l,0),(a5,a9+(x_v22:Int).toNat*2),(bd,0)] ((tP 9 3 0)::(tA 70 (L4 x69))::(tI 68 x_v22)::(tI 66 x_v22)::(Fi w_ f g q x_v21 s z x_v20 aa)) i7) eb=>hK _ _ ?_
     refine Rk 4 1 ((tI 8 x_v22)::(tP 9 3 0)::(tA 70 (L4 x69))::(tI 66 x_v22)::(Fi w_ f g q x_v21 s z x_v20 aa)) gd eb fun i8 gf=>?_
     refine wl fun K hK=>?_
     refine Ea 3 0 (.agg (L4 x69)) (L4 x69) gf eb fun kv gg ec=>hK _ _ ?_
     have gh:Kn 102 [(k,0),(l,0),(a5,a9+(x_v22:Int).toNat*2),(bd,0)] ((tI 8 x_v22)::(tP 9 3 0)::(tI 66 x_v22)::(Fi w_ f g q x_v21 s z x_v20 aa)) i8:=gg.kp
     refine wf (QT (Ab (Rk 0 4 ((tI 74 x_v22)::(tS 73 ai w_.acts.spares.length an)::(tI 8 x_v22)::(tP 9 3 0)::(tI 66 x_v22)::(Fi w_ f g q x_v21 s z x_v20 aa)) gh ec fun j7 gi=>?_)))
     obtain⟨x75,ex75,ad⟩:=A3 ad
     obtain⟨hq,hz,ip⟩:=Ak ex75
     obtain⟨bf,bi,jp,ew,ie,e7⟩:=ce.get (by decide) ip
     obtain rfl:=ie
     have cb:=ec.addPlc (b:=bf) (o:=bi+(x_v22:Int).toNat*1) (cs:=[.bool x75]) (fun j c hj=>e7 j _ (Al hj)) rfl (by kernel_rfl) (by kernel_rfl)
     refine A6 4 (x_v22) rfl rfl (rfl) rfl (by decide) gi (by rfl) (by rfl) (by rfl) ew (by rfl) hq hz (by kernel_rfl) fun ja (gj:Kn 102 [(k,0),(l,0),(a5,a9+(x_v22:Int).toNat*2),(bd,0),(bf,bi+(x_v22:Int).toNat*1)] ((tP 75 4 0)::(tI 74 x_v22)::(tS 73 ai w_.acts.spares.length an)::(tI 8 x_v22)::(tP 9 3 0)::(tI 66 x_v22)::(Fi w_ f g q x_v21 s z x_v20 aa)) ja)=>?_
     refine Rk 5 1 ((tB 76 x75)::(tI 8 x_v22)::(tP 9 3 0)::(tI 66 x_v22)::(Fi w_ f g q x_v21 s z x_v20 aa)) gj cb fun j8 c7=>?_
     refine wf (wC (x75) c7 (fun cw=>?_) (fun cw=>?_))
     ·
      rw [cw,QW] at ad
      refine QT (Ab (Rk 0 6 ((tA 82 (NN x69))::(tS 77 z x_v20.length aa)::(Mn x_v22 w_ f g q x_v21 s)) c7 cb fun j9 gk=>?_))
      refine wl fun K hK=>?_
      refine wS 153 3 (NN x69) gk cb fun dx jb kx (gm:Kn 102 [(k,0),(l,0),(a5,a9+(x_v22:Int).toNat*2),(bd,0),(bf,bi+(x_v22:Int).toNat*1)] ((tS 83 dx 1 1)::(tA 82 (NN x69))::(tS 77 z x_v20.length aa)::(Mn x_v22 w_ f g q x_v21 s)) jb) ed=>?_
      have c4:Af ba ([Bm.mk x69.stop x69.tm (-1)]:List Bm) ([.int .i64 x69.stop,.int .i64 x69.tm,.int .i64 (-1)]:List Value):=⟨_,_,rfl,((Aa Ac (Aa Ac Ac)):rep ba ((Bm.mk x69.stop x69.tm (-1)):Bm) _),rfl⟩
      refine hK _ _ ?_
      obtain⟨x84,ex84,ad⟩:=A3 ad
      obtain⟨dm,ha⟩:=BZ ex84
      refine wl fun K hK=>?_
      refine Bs 0 24 1 _ (x84.length) _ ([.int .i64 x69.stop,.int .i64 x69.tm,.int .i64 (-1)]:List Value) gm ed rfl rfl (by decide) rfl (by rfl) (by kernel_rfl) (by rfl) (by rfl) (Af.len c4) (ed.rowCell (i:=2) rfl) c4.one (by rw [dm]; simp <;> omega) (by rw [dm]; exact ha) (by decide) fun a4 a8 en jc ky fi (gn:Kn 102 [(k,0),(l,0),(a5,a9+(x_v22:Int).toNat*2),(bd,0),(bf,bi+(x_v22:Int).toNat*1)] ((tS 84 a4 x84.length a8)::(tS 83 dx 1 1)::(tA 82 (NN x69))::(tS 77 z x_v20.length aa)::(Mn x_v22 w_ f g q x_v21 s)) jc) de=>?_
      have e8:Af ba x84 (bt++([.int .i64 x69.stop,.int .i64 x69.tm,.int .i64 (-1)]:List Value)):=by rw [dm]; exact Af.append c0 c4
      obtain rfl:en=0:=Nat.le_zero.1 fi
      refine hK _ _ ?_
      refine Rk 8 1 ((tS 4 a4 x84.length a8)::(Mn x_v22 w_ f g q x_v21 s)) gn de fun ka go=>?_
      refine wf (Ab (Rk 0 9 ((tI 93 (IntKind.i64.wrap (((w_.route.buses.length:Nat):Int)+x_v22)))::(tS 87 ab t_.legs.length ac)::(KN q x_v21 s a4 x84 a8 x_v22 w_ f g)) go de fun kb gp=>?_))
      obtain⟨x94,ex94,ad⟩:=A3 ad
      obtain⟨hr,h0,iq⟩:=Ak ex94
      obtain⟨bx,b1,jq,ex,ig,e9⟩:=bo.get (by decide) iq
      obtain⟨be,bg,rfl,h3⟩:=ig
      have ee:=de.addPlc (b:=bx) (o:=b1+(IntKind.i64.wrap (((w_.route.buses.length:Nat):Int)+x_v22):Int).toNat*1) (cs:=[.slice be x94.length bg]) (fun j c hj=>e9 j _ (Al hj)) rfl (by kernel_rfl) (by kernel_rfl)
      refine A6 9 (IntKind.i64.wrap (((w_.route.buses.length:Nat):Int)+x_v22)) rfl rfl (rfl) rfl (by decide) gp (by rfl) (by rfl) (by rfl) ex (by rfl) hr h0 (by kernel_rfl) fun je (gq:Kn 102 (OP k l a5 a9 x_v22 bd bf bi bx b1 w_) ((tP 94 5 0)::(tI 93 (IntKind.i64.wrap (((w_.route.buses.length:Nat):Int)+x_v22)))::(tS 87 ab t_.legs.length ac)::(KN q x_v21 s a4 x84 a8 x_v22 w_ f g)) je)=>?_
      refine Rk 10 2 ((tA 96 [.slice be x94.length bg,.int .i64 0])::(KN q x_v21 s a4 x84 a8 x_v22 w_ f g)) gq ee fun kc gr=>?_
      refine wl fun K hK=>?_
      refine wS 158 2 [.slice be x94.length bg,.int .i64 0] gr ee fun dy jf kz (gs:Kn 102 (OP k l a5 a9 x_v22 bd bf bi bx b1 w_) ((tS 97 dy 1 1)::(tA 96 [.slice be x94.length bg,.int .i64 0])::(KN q x_v21 s a4 x84 a8 x_v22 w_ f g)) jf) ef=>?_
      have c5:Af ba ([A9.mk x94 0]:List A9) ([.slice be x94.length bg,.int .i64 0]:List Value):=⟨_,_,rfl,((Aa (Ae h3) Ac):rep ba ((A9.mk x94 0):A9) _),rfl⟩
      refine hK _ _ ?_
      obtain⟨x98,ex98,ad⟩:=A3 ad
      obtain⟨dp,hb⟩:=BZ ex98
      refine wl fun K hK=>?_
      refine Bs 1 32 1 _ (x98.length) _ ([.slice be x94.length bg,.int .i64 0]:List Value) gs ef rfl rfl (by decide) rfl (by rfl) (by kernel_rfl) (by rfl) (by rfl) (Af.len c5) (ef.rowCell (i:=3) rfl) c5.one (by rw [dp]; simp <;> omega) (by rw [dp]; exact hb) (by decide) fun ck cm eo jg k0 fj (gv:Kn 102 (OP k l a5 a9 x_v22 bd bf bi bx b1 w_) ((tS 98 ck x98.length cm)::(tS 97 dy 1 1)::(tA 96 [.slice be x94.length bg,.int .i64 0])::(KN q x_v21 s a4 x84 a8 x_v22 w_ f g)) jg) df=>?_
      have fa:Af ba x98 (bu++([.slice be x94.length bg,.int .i64 0]:List Value)):=by rw [dp]; exact Af.append c1 c5
      obtain rfl:eo=0:=Nat.le_zero.1 fj
      refine hK _ _ ?_
      refine Rk 14 1 [tS 5 ck x98.length cm,tS 4 a4 x84.length a8,tI 66 x_v22,tI 65 ((w_.route.spares.length:Nat):Int),tS 64 f w_.route.spares.length g,tP 3 1 0,tP 2 0 0] gv df fun kd gw=>?_
      refine wf (Ab (Rk 0 2 [tI 66 (IntKind.i64.wrap (x_v22+1)),tS 5 ck x98.length cm,tS 4 a4 x84.length a8,tI 65 ((w_.route.spares.length:Nat):Int),tS 64 f w_.route.spares.length g,tP 3 1 0,tP 2 0 0] gw df fun ke gx=>?_))
      refine wf ?_
      exact QY cr ⟨Nat.lt_succ_self _,QY x84 ⟨x98,IntKind.i64.wrap (x_v22+1),a4,a8,bt++([.int .i64 x69.stop,.int .i64 x69.tm,.int .i64 (-1)]:List Value),ck,cm,bu++([.slice be x94.length bg,.int .i64 0]:List Value),_,_,rfl,(gx.keep [66,65,64,5,4,3,2] (by rfl)).cut 2 (by kernel_rfl),(df.cutRw 2).cutPl 2 (by kernel_rfl),bz,e8,fa,ad⟩⟩
     ·
      rw [cw,QV] at ad
      refine wp_skip (Ab (Rk 0 2 ((tI 66 (IntKind.i64.wrap (x_v22+1)))::(Fi w_ f g q x_v21 s z x_v20 aa)) c7 cb fun kf gy=>?_))
      refine wf ?_
      exact QY cr ⟨Nat.lt_succ_self _,QY x_v20 ⟨x_v21,IntKind.i64.wrap (x_v22+1),z,aa,bt,q,s,bu,_,_,rfl,(gy.keep [66,65,64,5,4,3,2] (by rfl)).cut 2 (by kernel_rfl),cb.cutPl 2 (by kernel_rfl),bz,c0,c1,ad⟩⟩
    ·
     rw [cv,QV] at ad
     refine wp_exit ?_
     obtain rfl:=QZ ad
     exact QY z ⟨aa,bt,q,s,bu,_,_,rfl,c6.kp,co,bz,c0,c1⟩
  ·
   rintro _ ek ⟨bj,bl,bv,bk,bm,b2,dr,b9,rfl,gz,dh,js,c2,c3⟩
   refine QT (Ab (Rk 0 4 [tS 5 bk ar.2.length bm,tS 4 bj ar.1.length bl] gz dh fun kg g0=>?_))
   refine wf (wp_ret ?_)
   obtain⟨d1,d5,h5,cp⟩:=dh.settle (i:=0) rfl
   replace c2:=c2.mono d5
   replace cp:Ah ⟨w,h,Az⟩ d1 [(k,0),(l,0)] [⟨FH au w_ av d e f g ag al ah am ai an,some 115⟩,⟨FG aj t_ ao ak ap ab ac,some 76⟩] [⟨bj,ar.1.length,bl,153,3,bv,(bv:List Value).length⟩,⟨bk,ar.2.length,bm,158,2,b2,0⟩] ek:=cp
   have dj:Ar d1 bj bl ar.1:=⟨_,c2,h5,dh.rowCap (i:=0) rfl⟩
   obtain⟨d2,d6,h6,di⟩:=cp.settle (i:=1) rfl
   replace dj:=dj.mono d6
   replace c3:=c3.mono (QU d5 d6)
   replace di:Ah ⟨w,h,Az⟩ d2 [(k,0),(l,0)] [⟨FH au w_ av d e f g ag al ah am ai an,some 115⟩,⟨FG aj t_ ao ak ap ab ac,some 76⟩] [⟨bj,ar.1.length,bl,153,3,bv,(bv:List Value).length⟩,⟨bk,ar.2.length,bm,158,2,b2,(b2:List Value).length⟩] ek:=di
   have h4:Ar d2 bk bm ar.2:=⟨_,c3,h6,cp.rowCap (i:=1) rfl⟩
   obtain rfl:=QZ H
   exact rt (.tup [.c (.slice bj ar.1.length bl),.c (.slice bk ar.2.length bm)]) g0 di ⟨_,_,rfl,⟨_,_,rfl,dj⟩,⟨_,_,rfl,h4⟩⟩
end Go.Proofs.Ytokchpjijlebiaa
