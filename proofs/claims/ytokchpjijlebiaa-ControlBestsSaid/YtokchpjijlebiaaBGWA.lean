/- Each call computes its plain function. -/
import Derived.Test.YtokchpjijlebiaaProg
import Derived.Test.YtokchpjijlebiaaBGP0
set_option linter.all false
namespace Go.Proofs.Ytokchpjijlebiaa
open Go Go.RowKit
open Rep (rep)
open KRep (kv)
open VRep (rv)
set_option maxRecDepth 100000 in
set_option maxHeartbeats 4000000 in
theorem Ff (n:Nat) {h:Ae} {w:World} (hh:Dn h w) (n_:Int) (low:Int) (high:Int) {r:Bool} (H:Gs n n_ low high=some r) :
  Calls Try.prog 37 #[.int .i64 n_,.int .i64 low,.int .i64 high] w (Dp (fun h v=>v=.bool r) h w):=by
 refine enter 15 [.c (.int .i64 n_),.c (.int .i64 low),.c (.int .i64 high)] Try.func37 rfl rfl rfl rfl fun t hk=>?_
 have hm:=Ah.begin h w hh
 unfold Gs at H
 refine XT (Aa (Rk 0 1 [tI 0 n_,tI 1 low,tI 2 high] hk hm fun k f=>?_))
 refine wf (XT (Aa (Rk 0 4 [tB 10 (decide (n_≥low)),tI 0 n_,tI 2 high] f hm fun d b=>?_)))
 rcases Bool.eq_false_or_eq_true (decide (n_≥low)) with a | a
 ·
  rw [a,XW] at H
  have g:Kn 15 [] [tB 10 true,tI 0 n_,tI 2 high] d:=(b.setB 10 true (by rfl) a).kp
  refine Rk 4 5 [tB 6 (decide (n_≤high))] g hm fun m i=>?_
  refine wf (wp_ret ?_)
  obtain rfl:=XZ H
  exact rt (.one (.c (.bool (decide (n_≤high))))) i hm rfl
 ·
  rw [a,XV] at H
  have j:Kn 15 [] [tB 10 false,tI 0 n_,tI 2 high] d:=(b.setB 10 false (by rfl) a).kp
  refine Rk 4 5 [tB 6 false] j hm fun l e=>?_
  refine wf (wp_ret ?_)
  obtain rfl:=XZ H
  exact rt (.one (.c (.bool false))) e hm rfl
abbrev Sw (a:Option Addr) (r_:Af) (e:Nat) (b:Option Addr) (f:Nat) (d:Option Addr) (g:Nat):List SC:=[.slice a r_.legs.length e,.int .i64 r_.turn.lo,.int .i64 r_.turn.hi,.slice b r_.buses.length f,.slice d r_.spares.length g,.int .i64 r_.unit,.int .i64 r_.gap,.int .i64 r_.fr,.int .i64 r_.to_]
set_option maxRecDepth 100000 in
set_option maxHeartbeats 4000000 in
theorem GD (n:Nat) {h:Ae} {w:World} (hh:Dn h w) (r_:Af) {cs_r_:List Value} (hx_r_:rep h r_ cs_r_) {r:Int} (H:Fc n r_=some r) :
  Calls Try.prog 19 #[.agg cs_r_.toArray] w (Dp (fun h v=>v=.int .i64 r) h w):=by
 obtain⟨_,_,rfl,⟨a,e,rfl,q⟩,⟨_,_,rfl,⟨_,_,rfl,rfl,rfl⟩,⟨_,_,rfl,⟨b,f,rfl,s⟩,⟨_,_,rfl,⟨d,g,rfl,u⟩,⟨_,_,rfl,rfl,⟨_,_,rfl,rfl,⟨_,_,rfl,rfl,rfl⟩⟩⟩⟩⟩⟩⟩:=hx_r_
 refine enter 7 [.agg (Sw a r_ e b f d g)] Try.func19 rfl rfl rfl rfl fun t hk=>?_
 have hm:=Ah.begin h w hh
 unfold Fc at H
 refine XT (Aa (wl fun K hK=>?_))
 refine wb (.agg (Sw a r_ e b f d g)) hk hm fun j o p (k:Kn 7 [(j,0)] [tP 1 0 0,tA 0 (Sw a r_ e b f d g)] o) (i:Ah ⟨w,h,Aj⟩ h [(j,0)] [⟨Sw a r_ e b f d g,some 28⟩] [] p)=>hK _ _ ?_
 refine Rk 1 1 [tP 1 0 0] k i fun x l=>?_
 refine wf (XT (Aa (Rk 0 5 [tI 2 (IntKind.i64.wrap (((r_.legs.length:Nat):Int)+1))] l i fun y m=>?_)))
 refine wf (wp_ret ?_)
 obtain rfl:=XZ H
 exact rt (.one (.c (.int .i64 (IntKind.i64.wrap (((r_.legs.length:Nat):Int)+1))))) m i rfl
abbrev Sx (a:Option Addr) (r_:Af) (e:Nat) (b:Option Addr) (f:Nat) (d:Option Addr) (g:Nat):List SC:=[.slice a r_.legs.length e,.int .i64 r_.turn.lo,.int .i64 r_.turn.hi,.slice b r_.buses.length f,.slice d r_.spares.length g,.int .i64 r_.unit,.int .i64 r_.gap,.int .i64 r_.fr,.int .i64 r_.to_]
set_option maxRecDepth 100000 in
set_option maxHeartbeats 4000000 in
theorem K3 (n:Nat) {h:Ae} {w:World} (hh:Dn h w) (r_:Af) {cs_r_:List Value} (hx_r_:rep h r_ cs_r_) {r:Int} (H:FM n r_=some r) :
  Calls Try.prog 30 #[.agg cs_r_.toArray] w (Dp (fun h v=>v=.int .i64 r) h w):=by
 obtain⟨_,_,rfl,⟨a,e,rfl,q⟩,⟨_,_,rfl,⟨_,_,rfl,rfl,rfl⟩,⟨_,_,rfl,⟨b,f,rfl,s⟩,⟨_,_,rfl,⟨d,g,rfl,u⟩,⟨_,_,rfl,rfl,⟨_,_,rfl,rfl,⟨_,_,rfl,rfl,rfl⟩⟩⟩⟩⟩⟩⟩:=hx_r_
 refine enter 8 [.agg (Sx a r_ e b f d g)] Try.func30 rfl rfl rfl rfl fun t hk=>?_
 have hm:=Ah.begin h w hh
 unfold FM at H
 refine XT (Aa (wl fun K hK=>?_))
 refine wb (.agg (Sx a r_ e b f d g)) hk hm fun j o p (k:Kn 8 [(j,0)] [tP 1 0 0,tA 0 (Sx a r_ e b f d g)] o) (i:Ah ⟨w,h,Aj⟩ h [(j,0)] [⟨Sx a r_ e b f d g,some 28⟩] [] p)=>hK _ _ ?_
 refine Rk 1 1 [tP 1 0 0] k i fun x l=>?_
 refine wf (XT (Aa (Rk 0 6 [tI 2 (IntKind.i64.wrap (Int.tdiv (IntKind.i64.wrap (((r_.legs.length:Nat):Int)+1)) 2))] l i fun y m=>?_)))
 refine wf (wp_ret ?_)
 obtain rfl:=XZ H
 exact rt (.one (.c (.int .i64 (IntKind.i64.wrap (Int.tdiv (IntKind.i64.wrap (((r_.legs.length:Nat):Int)+1)) 2))))) m i rfl
set_option maxRecDepth 100000 in
set_option maxHeartbeats 4000000 in
theorem J9 (n:Nat) {h:Ae} {w:World} (hh:Dn h w) (r_:Rg) {cs_r_:List Value} (hx_r_:rep h r_ cs_r_) (most:Int) {r:Bool} (H:GS n r_ most=some r) :
  Calls Try.prog 60 #[.agg cs_r_.toArray,.int .i64 most] w (Dp (fun h v=>v=.bool r) h w):=by
 obtain⟨_,_,rfl,rfl,rfl⟩:=hx_r_
 refine enter 16 [.agg [.int .i64 r_.lo,.int .i64 r_.hi],.c (.int .i64 most)] Try.func60 rfl rfl rfl rfl fun t hk=>?_
 have hm:=Ah.begin h w hh
 unfold GS at H
 refine XT (Aa (wl fun K hK=>?_))
 refine wb (.agg [.int .i64 r_.lo,.int .i64 r_.hi]) hk hm fun a x y (p:Kn 16 [(a,0)] [tP 2 0 0,tA 0 [.int .i64 r_.lo,.int .i64 r_.hi],tI 1 most] x) (e:Ah ⟨w,h,Aj⟩ h [(a,0)] [⟨[.int .i64 r_.lo,.int .i64 r_.hi],some 24⟩] [] y)=>hK _ _ ?_
 refine Rk 1 1 [tP 2 0 0,tI 1 most] p e fun ad q=>?_
 refine wf (XT (Aa (Rk 0 4 [tI 8 r_.hi,tI 6 r_.lo,tP 2 0 0,tI 1 most] q e fun ae s=>?_)))
 obtain⟨x9,ex9,H⟩:=Aq H
 refine wl fun K hK=>?_
 refine wc [.c (.int .i64 r_.lo),.c (.int .i64 0),.c (.int .i64 r_.hi)] s e (Ff n e.has r_.lo 0 r_.hi ex9) fun af z ag i aa d=>?_
 obtain rfl:=i
 refine⟨.one (.c (.bool x9)),rfl,fun u (j:Kn 16 [(a,0)] [tB 9 x9,tI 8 r_.hi,tI 6 r_.lo,tP 2 0 0,tI 1 most] u)=>hK _ _ ?_⟩
 refine Rk 5 1 [tB 10 x9,tP 2 0 0,tI 1 most] j d fun g f=>?_
 rcases Bool.eq_false_or_eq_true (x9) with b | b
 ·
  rw [b,XW] at H
  have k:Kn 16 [(a,0)] [tB 10 true,tP 2 0 0,tI 1 most] g:=(f.setB 10 true (by rfl) b).kp
  refine Rk 6 6 [tB 4 (decide (r_.hi≤most))] k d fun ab l=>?_
  refine wf (wp_ret ?_)
  obtain rfl:=XZ H
  exact rt (.one (.c (.bool (decide (r_.hi≤most))))) l d rfl
 ·
  rw [b,XV] at H
  have m:Kn 16 [(a,0)] [tB 10 false,tP 2 0 0,tI 1 most] g:=(f.setB 10 false (by rfl) b).kp
  refine Rk 6 6 [tB 4 false] m d fun ac o=>?_
  refine wf (wp_ret ?_)
  obtain rfl:=XZ H
  exact rt (.one (.c (.bool false))) o d rfl
set_option maxRecDepth 100000 in
set_option maxHeartbeats 4000000 in
theorem I0 (n:Nat) {h:Ae} {w:World} (hh:Dn h w) (r_:Rg) {cs_r_:List Value} (hx_r_:rep h r_ cs_r_) (high:Bool) {r:Int} (H:Iq n r_ high=some r) :
  Calls Try.prog 91 #[.agg cs_r_.toArray,.bool high] w (Dp (fun h v=>v=.int .i64 r) h w):=by
 obtain⟨_,_,rfl,rfl,rfl⟩:=hx_r_
 refine enter 10 [.agg [.int .i64 r_.lo,.int .i64 r_.hi],.c (.bool high)] Try.func91 rfl rfl rfl rfl fun t hk=>?_
 have hm:=Ah.begin h w hh
 unfold Iq at H
 refine XT (Aa (wl fun K hK=>?_))
 refine wb (.agg [.int .i64 r_.lo,.int .i64 r_.hi]) hk hm fun e k l (i:Kn 10 [(e,0)] [tP 2 0 0,tA 0 [.int .i64 r_.lo,.int .i64 r_.hi],tB 1 high] k) (a:Ah ⟨w,h,Aj⟩ h [(e,0)] [⟨[.int .i64 r_.lo,.int .i64 r_.hi],some 24⟩] [] l)=>hK _ _ ?_
 refine Rk 1 1 [tP 2 0 0,tB 1 high] i a fun p j=>?_
 refine wf (XT (XT (Aa (Rk 0 1 [tB 5 high,tP 2 0 0] j a fun q d=>?_))))
 refine wf (wC (high) d (fun b=>?_) (fun b=>?_))
 ·
  rw [b,XW] at H
  refine XT (Aa (Rk 0 3 [tI 4 r_.hi] d a fun m f=>?_))
  refine wf (wp_ret ?_)
  obtain rfl:=XZ H
  exact rt (.one (.c (.int .i64 r_.hi))) f a rfl
 ·
  rw [b,XV] at H
  refine wp_skip (XT (Aa (Rk 0 3 [tI 4 r_.lo] d a fun o g=>?_)))
  refine wf (wp_ret ?_)
  obtain rfl:=XZ H
  exact rt (.one (.c (.int .i64 r_.lo))) g a rfl
set_option maxRecDepth 100000 in
set_option maxHeartbeats 4000000 in
theorem Kl (n:Nat) {h:Ae} {w:World} (hh:Dn h w) (r_:Rg) {cs_r_:List Value} (hx_r_:rep h r_ cs_r_) {r:Rg} (H:Js n r_=some r) :
  Calls Try.prog 55 #[.agg cs_r_.toArray] w (Dp (fun h v=>∃ cs,v=.agg cs.toArray∧rep h r cs) h w):=by
 obtain⟨_,_,rfl,rfl,rfl⟩:=hx_r_
 refine enter 8 [.agg [.int .i64 r_.lo,.int .i64 r_.hi]] Try.func55 rfl rfl rfl rfl fun t hk=>?_
 have hm:=Ah.begin h w hh
 unfold Js at H
 refine XT (Aa (wl fun K hK=>?_))
 refine wb (.agg [.int .i64 r_.lo,.int .i64 r_.hi]) hk hm fun a p s (j:Kn 8 [(a,0)] [tP 1 0 0,tA 0 [.int .i64 r_.lo,.int .i64 r_.hi]] p) (m:Ah ⟨w,h,Aj⟩ h [(a,0)] [⟨[.int .i64 r_.lo,.int .i64 r_.hi],some 24⟩] [] s)=>hK _ _ ?_
 refine wl fun K hK=>?_
 refine wa [.int .i64 0,.int .i64 0] j m fun b d u (k:Kn 8 [(a,0),(b,0)] [tP 2 1 0,tP 1 0 0,tA 0 [.int .i64 r_.lo,.int .i64 r_.hi]] d) (c:Ah ⟨w,h,Aj⟩ h [(a,0),(b,0)] [⟨[.int .i64 r_.lo,.int .i64 r_.hi],some 24⟩,⟨[.int .i64 0,.int .i64 0],some 39⟩] [] u)=>hK _ _ ?_
 have e:Kn 8 [(a,0),(b,0)] [tP 2 1 0,tP 1 0 0] d:=k.kp
 refine wf (XT (Aa (Rk 0 5 [tA 7 [.int .i64 r_.lo,.int .i64 r_.hi],tP 2 1 0] e c fun o f=>?_)))
 refine wl fun K hK=>?_
 refine G2 1 0 (.agg [.int .i64 r_.lo,.int .i64 r_.hi]) [.int .i64 r_.lo,.int .i64 r_.hi] f c fun q g (l:Ah ⟨w,h,Aj⟩ h [(a,0),(b,0)] [⟨[.int .i64 r_.lo,.int .i64 r_.hi],some 24⟩,⟨[.int .i64 r_.lo,.int .i64 r_.hi],some 39⟩] [] q)=>hK _ _ ?_
 have i:Kn 8 [(a,0),(b,0)] [tP 2 1 0] o:=g.kp
 refine wf (wp_ret ?_)
 obtain rfl:=XZ H
 exact rt (.one (.agg [.int .i64 r_.lo,.int .i64 r_.hi])) i l ⟨_,rfl,((Ab Ac Ac):rep h (r_:Rg) _)⟩
abbrev Sy (x82:Cy):List SC:=[.int .i64 x82.stop,.int .i64 x82.tm.lo,.int .i64 x82.tm.hi]
abbrev Eb (g:Option Addr) (r_:Af) (i:Nat) (b:Option Addr) (e:Nat) (d:Option Addr) (f:Nat):List SC:=[.slice g r_.legs.length i,.int .i64 r_.turn.lo,.int .i64 r_.turn.hi,.slice b r_.buses.length e,.slice d r_.spares.length f,.int .i64 r_.unit,.int .i64 r_.gap,.int .i64 r_.fr,.int .i64 r_.to_]
abbrev Gh (x_v20:Int):TM:=[tI 4 x_v20,tP 1 0 0]
abbrev Gi (x_v30:Int):TM:=[tI 5 x_v30,tP 1 0 0]
set_option maxRecDepth 100000 in
set_option maxHeartbeats 4000000 in
theorem LF (n:Nat) {h:Ae} {w:World} (hh:Dn h w) (r_:Af) {cs_r_:List Value} (hx_r_:rep h r_ cs_r_) {r:Int} (H:GH n r_=some r) :
  Calls Try.prog 17 #[.agg cs_r_.toArray] w (Dp (fun h v=>v=.int .i64 r) h w):=by
 obtain⟨_,_,rfl,⟨g,i,rfl,o⟩,⟨_,_,rfl,⟨_,_,rfl,rfl,rfl⟩,⟨_,_,rfl,⟨b,e,rfl,k⟩,⟨_,_,rfl,⟨d,f,rfl,l⟩,⟨_,_,rfl,rfl,⟨_,_,rfl,rfl,⟨_,_,rfl,rfl,rfl⟩⟩⟩⟩⟩⟩⟩:=hx_r_
 refine enter 128 [.agg (Eb g r_ i b e d f)] Try.func17 rfl rfl rfl rfl fun t hk=>?_
 have hm:=Ah.begin h w hh
 unfold GH at H
 refine XT (Aa (wl fun K hK=>?_))
 refine wb (.agg (Eb g r_ i b e d f)) hk hm fun a hr h8 (ez:Kn 128 [(a,0)] [tP 1 0 0,tA 0 (Eb g r_ i b e d f)] hr) (ai:Ah ⟨w,h,Aj⟩ h [(a,0)] [⟨Eb g r_ i b e d f,some 28⟩] [] h8)=>hK _ _ ?_
 refine Rk 1 1 [tP 1 0 0] ez ai fun i5 e3=>?_
 refine wf (XT (XT ?_))
 obtain⟨dl,bd,H⟩:=Aq H
 refine Av (fun a' w'=>∃ (cm:Array Value)(au:Ae),a' = ⟨cm,[]⟩∧Kn 128 [(a,0)] [tP 1 0 0,tB 15 dl] cm∧Ah ⟨w,h,Aj⟩ au [(a,0)] [⟨Eb g r_ i b e d f,some 28⟩] [] w'∧Ae.le h au) ?_ ?_
 ·
  refine Aa (Rk 0 5 [tB 10 (decide (((r_.buses.length:Nat):Int)>4)),tP 1 0 0] e3 ai fun dv cz=>?_)
  rcases Bool.eq_false_or_eq_true (decide (((r_.buses.length:Nat):Int)>4)) with a0 | a0
  ·
   rw [a0,XW] at bd
   have fg:Kn 128 [(a,0)] [tB 10 true,tP 1 0 0] dv:=(cz.setB 10 true (by rfl) a0).kp
   refine Rk 5 5 [tB 15 true,tP 1 0 0] fg ai fun jg fm=>?_
   refine wf ?_
   obtain rfl:=XZ bd
   exact XY _ ⟨_,rfl,fm.kp,ai,Ae.le_refl _⟩
  ·
   rw [a0,XV] at bd
   have fn:Kn 128 [(a,0)] [tB 10 false,tP 1 0 0] dv:=(cz.setB 10 false (by rfl) a0).kp
   refine Rk 5 5 [tB 15 (decide (((r_.spares.length:Nat):Int)>2)),tP 1 0 0] fn ai fun jl ft=>?_
   refine wf ?_
   obtain rfl:=XZ bd
   exact XY _ ⟨_,rfl,ft.kp,ai,Ae.le_refl _⟩
 ·
  rintro _ kt ⟨cm,au,rfl,b5,u,cb⟩
  replace o:=o.mono cb
  replace k:=k.mono cb
  replace l:=l.mono cb
  refine wC (dl) b5 (fun bx=>?_) (fun bx=>?_)
  ·
   rw [bx,XW] at H
   refine XT (Aa (Rk 0 1 [tI 2 3] b5 u fun ju f6=>?_))
   refine wf (wp_ret ?_)
   obtain rfl:=XZ H
   exact rt (.one (.c (.int .i64 3))) f6 u rfl
  ·
   rw [bx,XV] at H
   refine wp_skip (XT (XT ?_))
   obtain⟨dq,m,H⟩:=Aq H
   refine Av (fun a' w'=>∃ (cr:Array Value)(ay:Ae),a' = ⟨cr,[]⟩∧Kn 128 [(a,0)] [tP 1 0 0,tB 57 dq] cr∧Ah ⟨w,h,Aj⟩ ay [(a,0)] [⟨Eb g r_ i b e d f,some 28⟩] [] w'∧Ae.le au ay) ?_ ?_
   ·
    refine Aa (Rk 0 6 [tB 21 ((Int.tmod ((r_.legs.length:Nat):Int) 2) == 0),tP 1 0 0] b5 u fun dy c8=>?_)
    rcases Bool.eq_false_or_eq_true (((Int.tmod ((r_.legs.length:Nat):Int) 2) == 0)) with a3 | a3
    ·
     rw [a3,XW] at m
     have gd:Kn 128 [(a,0)] [tB 21 true,tP 1 0 0] dy:=(c8.setB 21 true (by rfl) a3).kp
     refine Rk 6 36 [tB 57 true,tP 1 0 0] gd u fun j3 gf=>?_
     refine wf ?_
     obtain rfl:=XZ m
     exact XY _ ⟨_,rfl,gf.kp,u,Ae.le_refl _⟩
    ·
     rw [a3,XV] at m
     have gg:Kn 128 [(a,0)] [tB 21 false,tP 1 0 0] dy:=(c8.setB 21 false (by rfl) a3).kp
     refine Rk 6 6 [tB 27 (decide (((r_.legs.length:Nat):Int)>7)),tP 1 0 0] gg u fun dz c9=>?_
     rcases Bool.eq_false_or_eq_true (decide (((r_.legs.length:Nat):Int)>7)) with a4 | a4
     ·
      rw [a4,XW] at m
      have gh:Kn 128 [(a,0)] [tB 27 true,tP 1 0 0] dz:=(c9.setB 27 true (by rfl) a4).kp
      refine Rk 12 30 [tB 57 true,tP 1 0 0] gh u fun j4 gi=>?_
      refine wf ?_
      obtain rfl:=XZ m
      exact XY _ ⟨_,rfl,gi.kp,u,Ae.le_refl _⟩
     ·
      rw [a4,XV] at m
      have gj:Kn 128 [(a,0)] [tB 27 false,tP 1 0 0] dz:=(c9.setB 27 false (by rfl) a4).kp
      refine Rk 12 2 [tA 29 [.int .i64 r_.turn.lo,.int .i64 r_.turn.hi],tB 27 false,tP 1 0 0] gj u fun j5 da=>?_
      obtain⟨x30,ex30,m⟩:=Aq m
      refine AS _ rfl (Ak da (by kernel_rfl)) fun K hK=>?_
      refine wc [.agg [.int .i64 r_.turn.lo,.int .i64 r_.turn.hi],.c (.int .i64 300)] da u (J9 n u.has r_.turn ((Ab Ac Ac):rep au r_.turn _) 300 ex30) fun ki iu kx eb ab al=>?_
      replace o:=o.mono ab
      replace k:=k.mono ab
      replace l:=l.mono ab
      obtain rfl:=eb
      refine⟨.one (.c (.bool x30)),rfl,fun h5 (gk:Kn 128 [(a,0)] [tB 30 x30,tA 29 [.int .i64 r_.turn.lo,.int .i64 r_.turn.hi],tB 27 false,tP 1 0 0] h5)=>hK _ _ ?_⟩
      refine Rk 15 3 [tB 33 (!x30),tP 1 0 0] gk al fun d0 db=>?_
      rcases Bool.eq_false_or_eq_true ((!x30)) with a5 | a5
      ·
       rw [a5,XW] at m
       have gl:Kn 128 [(a,0)] [tB 33 true,tP 1 0 0] d0:=(db.setB 33 true (by rfl) a5).kp
       refine Rk 18 24 [tB 57 true,tP 1 0 0] gl al fun j6 gm=>?_
       refine wf ?_
       obtain rfl:=XZ m
       exact XY _ ⟨_,rfl,gm.kp,al,ab⟩
      ·
       rw [a5,XV] at m
       have gn:Kn 128 [(a,0)] [tB 33 false,tP 1 0 0] d0:=(db.setB 33 false (by rfl) a5).kp
       refine Rk 18 2 [tI 35 r_.unit,tB 33 false,tP 1 0 0] gn al fun j7 dc=>?_
       obtain⟨x36,ex36,m⟩:=Aq m
       refine AS _ rfl (Ak dc (by kernel_rfl)) fun K hK=>?_
       refine wc [.c (.int .i64 r_.unit),.c (.int .i64 1),.c (.int .i64 30)] dc al (Ff n al.has r_.unit 1 30 ex36) fun kj iv ky ec ae am=>?_
       replace o:=o.mono ae
       replace k:=k.mono ae
       replace l:=l.mono ae
       obtain rfl:=ec
       refine⟨.one (.c (.bool x36)),rfl,fun h6 (gp:Kn 128 [(a,0)] [tB 36 x36,tI 35 r_.unit,tB 33 false,tP 1 0 0] h6)=>hK _ _ ?_⟩
       refine Rk 21 3 [tB 39 (!x36),tP 1 0 0] gp am fun d1 dd=>?_
       rcases Bool.eq_false_or_eq_true ((!x36)) with a6 | a6
       ·
        rw [a6,XW] at m
        have gq:Kn 128 [(a,0)] [tB 39 true,tP 1 0 0] d1:=(dd.setB 39 true (by rfl) a6).kp
        refine Rk 24 18 [tB 57 true,tP 1 0 0] gq am fun j8 gr=>?_
        refine wf ?_
        obtain rfl:=XZ m
        exact XY _ ⟨_,rfl,gr.kp,am,XU ab ae⟩
       ·
        rw [a6,XV] at m
        have gs:Kn 128 [(a,0)] [tB 39 false,tP 1 0 0] d1:=(dd.setB 39 false (by rfl) a6).kp
        refine Rk 24 2 [tI 41 r_.gap,tB 39 false,tP 1 0 0] gs am fun j9 de=>?_
        obtain⟨x42,ex42,m⟩:=Aq m
        refine AS _ rfl (Ak de (by kernel_rfl)) fun K hK=>?_
        refine wc [.c (.int .i64 r_.gap),.c (.int .i64 0),.c (.int .i64 2000)] de am (Ff n am.has r_.gap 0 2000 ex42) fun kk iw kz ed ah an=>?_
        replace o:=o.mono ah
        replace k:=k.mono ah
        replace l:=l.mono ah
        obtain rfl:=ed
        refine⟨.one (.c (.bool x42)),rfl,fun h7 (gu:Kn 128 [(a,0)] [tB 42 x42,tI 41 r_.gap,tB 39 false,tP 1 0 0] h7)=>hK _ _ ?_⟩
        refine Rk 27 3 [tB 45 (!x42),tP 1 0 0] gu an fun d2 df=>?_
        rcases Bool.eq_false_or_eq_true ((!x42)) with a7 | a7
        ·
         rw [a7,XW] at m
         have ep:Kn 128 [(a,0)] [tB 45 true,tP 1 0 0] d2:=(df.setB 45 true (by rfl) a7).kp
         refine Rk 30 12 [tB 57 true,tP 1 0 0] ep an fun iy er=>?_
         refine wf ?_
         obtain rfl:=XZ m
         exact XY _ ⟨_,rfl,er.kp,an,XU ab (XU ae ah)⟩
        ·
         rw [a7,XV] at m
         have es:Kn 128 [(a,0)] [tB 45 false,tP 1 0 0] d2:=(df.setB 45 false (by rfl) a7).kp
         refine Rk 30 4 [tI 49 r_.to_,tI 47 r_.fr,tB 45 false,tP 1 0 0] es an fun iz cx=>?_
         obtain⟨x50,ex50,m⟩:=Aq m
         refine AS _ rfl (Ak cx (by kernel_rfl)) fun K hK=>?_
         refine wc [.c (.int .i64 r_.fr),.c (.int .i64 0),.c (.int .i64 r_.to_)] cx an (Ff n an.has r_.fr 0 r_.to_ ex50) fun ka il kl d3 dg bb=>?_
         obtain rfl:=d3
         refine⟨.one (.c (.bool x50)),rfl,fun hs (et:Kn 128 [(a,0)] [tB 50 x50,tI 49 r_.to_,tI 47 r_.fr,tB 45 false,tP 1 0 0] hs)=>hK _ _ ?_⟩
         refine Rk 35 3 [tB 53 (!x50),tP 1 0 0] et bb fun du cy=>?_
         rcases Bool.eq_false_or_eq_true ((!x50)) with az | az
         ·
          rw [az,XW] at m
          have eu:Kn 128 [(a,0)] [tB 53 true,tP 1 0 0] du:=(cy.setB 53 true (by rfl) az).kp
          refine Rk 38 4 [tB 57 true,tP 1 0 0] eu bb fun i0 ev=>?_
          refine wf ?_
          obtain rfl:=XZ m
          exact XY _ ⟨_,rfl,ev.kp,bb,XU ab (XU ae (XU ah dg))⟩
         ·
          rw [az,XV] at m
          have ew:Kn 128 [(a,0)] [tB 53 false,tP 1 0 0] du:=(cy.setB 53 false (by rfl) az).kp
          refine Rk 38 4 [tB 57 (decide (r_.to_>2000)),tP 1 0 0] ew bb fun i1 ex=>?_
          refine wf ?_
          obtain rfl:=XZ m
          exact XY _ ⟨_,rfl,ex.kp,bb,XU ab (XU ae (XU ah dg))⟩
   ·
    rintro _ km ⟨cr,ay,rfl,b0,bi,b8⟩
    replace o:=o.mono b8
    replace k:=k.mono b8
    replace l:=l.mono b8
    refine wC (dq) b0 (fun br=>?_) (fun br=>?_)
    ·
     rw [br,XW] at H
     refine XT (Aa (Rk 0 1 [tI 2 1] b0 bi fun i2 ey=>?_))
     refine wf (wp_ret ?_)
     obtain rfl:=XZ H
     exact rt (.one (.c (.int .i64 1))) ey bi rfl
    ·
     rw [br,XV] at H
     refine wp_skip (XT (XT (Aa (Rk 0 1 [tI 3 0,tP 1 0 0] b0 bi fun i3 e0=>?_))))
     refine wf ?_
     obtain⟨dk,ct,H⟩:=Aq H
     refine Av (fun a' w'=>∃ (dr:Unit)(ck:Array Value)(aq:Ae),a' = ⟨ck,[]⟩∧Kn 128 [(a,0)] [tP 1 0 0] ck∧Ah ⟨w,h,Aj⟩ aq [(a,0)] [⟨Eb g r_ i b e d f,some 28⟩] [] w'∧Ae.le ay aq∧dk=.go dr) ?_ ?_
     ·
      refine wp_block ?_
      refine Ar (fun ho a' w'=>∃ (x_v10:Int)(cl:Array Value)(ar:Ae),a' = ⟨cl,[]⟩∧Kn 128 [(a,0)] [tI 3 x_v10,tP 1 0 0] cl∧Ah ⟨w,h,Aj⟩ ar [(a,0)] [⟨Eb g r_ i b e d f,some 28⟩] [] w'∧Ae.le ay ar∧DN ho r_ x_v10=some dk) n ?_ ?_
      ·
       exact XY 0 ⟨_,_,rfl,e0.kp,bi,Ae.le_refl _,ct⟩
      ·
       rintro bm _ h9 ⟨x_v10,cl,ar,rfl,e1,bj,a8,s⟩
       clear ct
       obtain _ | bm:=bm
       ·
        rw [DN] at s; cases s
       rw [DN] at s
       replace o:=o.mono a8
       replace k:=k.mono a8
       replace l:=l.mono a8
       refine XT (XT (Aa (Rk 0 5 [tB 62 (decide (x_v10<((r_.legs.length:Nat):Int))),tI 3 x_v10,tP 1 0 0] e1 bj fun i4 b1=>?_)))
       refine wf (wC (decide (x_v10<((r_.legs.length:Nat):Int))) b1 (fun bs=>?_) (fun bs=>?_))
       ·
        rw [bs,XW] at s
        refine wp_skip (XT (wp_block (XT (Aa (Rk 0 3 [tI 67 x_v10,tS 66 g r_.legs.length i,tI 3 x_v10,tP 1 0 0] b1 bj fun i6 e2=>?_)))))
        obtain⟨x68,ex68,s⟩:=Aq s
        obtain⟨gy,g3,he⟩:=Ai ex68
        obtain⟨bn,ch,ig,ef,g8,ek⟩:=o.get (by decide) he
        obtain⟨_,_,rfl,rfl,rfl⟩:=g8
        have cc:Ah ⟨w,h,Aj⟩ ar [(a,0),(bn,ch+(x_v10:Int).toNat*2)] [⟨Eb g r_ i b e d f,some 28⟩,⟨[.int .i64 x68.lo,.int .i64 x68.hi],none⟩] [] h9:=bj.addPlc (cs:=[.int .i64 x68.lo,.int .i64 x68.hi]) (fun j c hj=>ek j _ (Al hj)) rfl (by kernel_rfl) (by kernel_rfl)
        refine Bc 3 (x_v10) rfl rfl (rfl) rfl (by decide) e2 (by rfl) (by rfl) (by rfl) ef (by rfl) gy g3 (by kernel_rfl) fun ht (e4:Kn 128 [(a,0),(bn,ch+(x_v10:Int).toNat*2)] [tP 68 1 0,tI 67 x_v10,tS 66 g r_.legs.length i,tI 3 x_v10,tP 1 0 0] ht)=>?_
        refine Rk 4 1 [tA 69 [.int .i64 x68.lo,.int .i64 x68.hi],tI 3 x_v10,tP 1 0 0] e4 cc fun i7 e5=>?_
        obtain⟨x70,ex70,s⟩:=Aq s
        refine wl fun K hK=>?_
        refine wc [.agg [.int .i64 x68.lo,.int .i64 x68.hi],.c (.int .i64 300)] e5 cc (J9 bm cc.has x68 ((Ab Ac Ac):rep ar x68 _) 300 ex70) fun kb im kn d4 gv bc=>?_
        obtain rfl:=d4
        refine⟨.one (.c (.bool x70)),rfl,fun hu (e6:Kn 128 [(a,0),(bn,ch+(x_v10:Int).toNat*2)] [tB 70 x70,tA 69 [.int .i64 x68.lo,.int .i64 x68.hi],tI 3 x_v10,tP 1 0 0] hu)=>hK _ _ ?_⟩
        refine Rk 6 1 [tB 71 (!x70),tI 3 x_v10,tP 1 0 0] e6 bc fun i8 b2=>?_
        refine wf (wC ((!x70)) b2 (fun bt=>?_) (fun bt=>?_))
        ·
         rw [bt,XW] at s
         refine XT (Aa (Rk 0 1 [tI 2 1] b2 bc fun i9 e7=>?_))
         refine wf (wp_ret ?_)
         obtain rfl:=XZ s
         obtain rfl:=XZ H
         exact rt (.one (.c (.int .i64 1))) e7 bc rfl
        ·
         rw [bt,XV] at s
         refine wp_skip (Aa (Rk 0 3 [tI 3 (IntKind.i64.wrap (x_v10+1)),tP 1 0 0] b2 bc fun ja e8=>?_))
         refine wf ?_
         exact XY bm ⟨Nat.lt_succ_self _,XY (IntKind.i64.wrap (x_v10+1)) ⟨_,_,rfl,(e8.keep [3,1] (by rfl)).cut 1 (by kernel_rfl),bc.cutPl 1 (by kernel_rfl),XU a8 gv,s⟩⟩
       ·
        rw [bs,XV] at s
        refine wp_exit ?_
        obtain rfl:=XZ s
        exact XY () ⟨_,_,rfl,b1.kp,bj,a8,rfl⟩
     ·
      rintro _ ko ⟨dr,ck,aq,rfl,e9,dh,b9,rfl⟩
      rw [Ex.bind_go] at H
      replace o:=o.mono b9
      replace k:=k.mono b9
      replace l:=l.mono b9
      refine XT (XT (Aa (Rk 0 1 [tI 4 0,tP 1 0 0] e9 dh fun jb fa=>?_)))
      refine wf ?_
      obtain⟨dm,cu,H⟩:=Aq H
      refine Av (fun a' w'=>∃ (ds:Unit)(cn:Array Value)(av:Ae),a' = ⟨cn,[]⟩∧Kn 128 [(a,0)] [tP 1 0 0] cn∧Ah ⟨w,h,Aj⟩ av [(a,0)] [⟨Eb g r_ i b e d f,some 28⟩] [] w'∧Ae.le aq av∧dm=.go ds) ?_ ?_
      ·
       refine wp_block ?_
       refine Ar (fun hp a' w'=>∃ (x_v20:Int)(co:Array Value)(aw:Ae),a' = ⟨co,[]⟩∧Kn 128 [(a,0)] (Gh x_v20) co∧Ah ⟨w,h,Aj⟩ aw [(a,0)] [⟨Eb g r_ i b e d f,some 28⟩] [] w'∧Ae.le aq aw∧DO hp r_ x_v20=some dm) n ?_ ?_
       ·
        exact XY 0 ⟨_,_,rfl,fa.kp,dh,Ae.le_refl _,cu⟩
       ·
        rintro ao _ ia ⟨x_v20,co,aw,rfl,fb,af,a9,p⟩
        clear cu
        obtain _ | ao:=ao
        ·
         rw [DO] at p; cases p
        rw [DO] at p
        replace o:=o.mono a9
        replace k:=k.mono a9
        replace l:=l.mono a9
        refine XT (XT (Aa (Rk 0 5 ((tB 76 (decide (x_v20<((r_.buses.length:Nat):Int))))::(Gh x_v20)) fb af fun jc b3=>?_)))
        refine wf (wC (decide (x_v20<((r_.buses.length:Nat):Int))) b3 (fun bu=>?_) (fun bu=>?_))
        ·
         rw [bu,XW] at p
         refine wp_skip (XT (wp_block (XT (An (by kernel_rfl) ?_))))
         replace af:=af.drew
         refine Ao [] [(a,0)] [⟨Eb g r_ i b e d f,some 28⟩] ?_
         refine Dr [0,1,2] [2,1,0] ((tI 81 x_v20)::(tS 80 b r_.buses.length e)::(Gh x_v20)) b3 af fun jd fc=>?_
         obtain⟨x82,ex82,p⟩:=Aq p
         obtain⟨gz,g4,hf⟩:=Ai ex82
         obtain⟨x,z,ih,eg,g9,el⟩:=k.get (by decide) hf
         obtain⟨_,_,rfl,rfl,⟨_,_,rfl,rfl,rfl⟩⟩:=g9
         have cd:Ah ⟨w,h,Aj⟩ aw [(a,0),(x,z+(x_v20:Int).toNat*3)] [⟨Eb g r_ i b e d f,some 28⟩,⟨Sy x82,none⟩] [] (World.drew ia):=af.addPlc (cs:=(Sy x82)) (fun j c hj=>el j _ (Al hj)) rfl (by kernel_rfl) (by kernel_rfl)
         refine Ax 3 (x_v20) (Sy x82) (fun _ _ _ _ _ h=>h) rfl rfl (rfl) rfl (by decide) (by kernel_rfl) (by kernel_rfl) fc af.plOk (by rfl) (by rfl) (by rfl) eg (by rfl) gz g4 (by kernel_rfl) fun hv (fd:Kn 128 [(a,0),(x,z+(x_v20:Int).toNat*3)] ((tP 82 1 0)::(tI 81 x_v20)::(tS 80 b r_.buses.length e)::(Gh x_v20)) hv)=>?_
         refine Dr [4,5,6] (dn 6) ((tA 85 (Eb g r_ i b e d f))::(tI 84 x82.stop)::(Gh x_v20)) fd cd fun je fe=>?_
         obtain⟨x86,ex86,p⟩:=Aq p
         refine Dl 7 fun K hK=>?_
         refine wc [.agg (Eb g r_ i b e d f)] fe cd (GD ao cd.has r_ ((Ab (Ad o) (Ab (Ab Ac Ac) (Ab (Ad k) (Ab (Ad l) (Ab Ac (Ab Ac (Ab Ac Ac))))))):rep aw r_ _) ex86) fun kc io kq d5 be bk=>?_
         obtain rfl:=d5
         refine⟨.one (.c (.int .i64 x86)),rfl,fun hw (ff:Kn 128 [(a,0),(x,z+(x_v20:Int).toNat*3)] ((tI 86 x86)::(tA 85 (Eb g r_ i b e d f))::(tI 84 x82.stop)::(Gh x_v20)) hw)=>hK _ _ bk.plOk ?_⟩
         refine Dr [8] (dn 8) ((tI 87 (IntKind.i64.wrap (x86-1)))::(tI 84 x82.stop)::(Gh x_v20)) ff bk fun jf fh=>?_
         obtain⟨x88,ex88,p⟩:=Aq p
         refine Dl 9 fun K hK=>?_
         refine wc [.c (.int .i64 x82.stop),.c (.int .i64 0),.c (.int .i64 (IntKind.i64.wrap (x86-1)))] fh bk (Ff ao bk.has x82.stop 0 (IntKind.i64.wrap (x86-1)) ex88) fun kd cw ib d6 bf ac=>?_
         replace o:=o.mono (XU be bf)
         replace k:=k.mono (XU be bf)
         replace l:=l.mono (XU be bf)
         obtain rfl:=d6
         refine⟨.one (.c (.bool x88)),rfl,fun hx (fi:Kn 128 [(a,0),(x,z+(x_v20:Int).toNat*3)] ((tB 88 x88)::(tI 87 (IntKind.i64.wrap (x86-1)))::(tI 84 x82.stop)::(Gh x_v20)) hx)=>hK _ _ ac.plOk ?_⟩
         refine Dr [10,11] (dn 11) ((tB 90 (!x88))::(Gh x_v20)) fi ac fun dw c0=>?_
         rcases Bool.eq_false_or_eq_true ((!x88)) with a1 | a1
         ·
          rw [a1,XW] at p
          have fj:Kn 128 [(a,0),(x,z+(x_v20:Int).toNat*3)] ((tB 90 true)::(Gh x_v20)) dw:=(c0.setB 90 true (by rfl) a1).kp
          refine Dr [12,13,14,15,16,17,18,19,20] (dn 20) ((tB 99 true)::(Gh x_v20)) fj ac fun jh c1=>?_
          refine Ay (by kernel_rfl) (wC true c1 (fun hb=>?_) (fun hb=>?_))
          rotate_left
          ·
           cases hb
          refine XT (Aa (Rk 0 1 [tI 2 1] c1 ac fun ji fk=>?_))
          refine wf (wp_ret ?_)
          obtain rfl:=XZ p
          obtain rfl:=XZ H
          exact rt (.one (.c (.int .i64 1))) fk ac rfl
         ·
          rw [a1,XV] at p
          have fl:Kn 128 [(a,0),(x,z+(x_v20:Int).toNat*3)] ((tB 90 false)::(Gh x_v20)) dw:=(c0.setB 90 false (by rfl) a1).kp
          refine Dr [12,13,14] (dn 14) ((tI 93 x_v20)::(tS 92 b r_.buses.length e)::(tB 90 false)::(Gh x_v20)) fl ac fun jj c2=>?_
          obtain⟨x94,ex94,p⟩:=Aq p
          obtain⟨g0,g5,hg⟩:=Ai ex94
          obtain⟨bo,ci,ii,eh,ha,em⟩:=k.get (by decide) hg
          obtain⟨_,_,rfl,rfl,⟨_,_,rfl,rfl,rfl⟩⟩:=ha
          have ce:Ah ⟨w,h,Aj⟩ cw [(a,0),(x,z+(x_v20:Int).toNat*3),(bo,ci+(x_v20:Int).toNat*3)] [⟨Eb g r_ i b e d f,some 28⟩,⟨Sy x82,none⟩,⟨[.int .i64 x94.stop,.int .i64 x94.tm.lo,.int .i64 x94.tm.hi],none⟩] [] ib:=ac.addPlc (cs:=[.int .i64 x94.stop,.int .i64 x94.tm.lo,.int .i64 x94.tm.hi]) (fun j c hj=>em j _ (Al hj)) rfl (by kernel_rfl) (by kernel_rfl)
          refine Ax 15 (x_v20) [.int .i64 x94.stop,.int .i64 x94.tm.lo,.int .i64 x94.tm.hi] (fun _ _ _ _ _ h=>h) rfl rfl (Ak c2 (by kernel_rfl)) rfl (by decide) (by kernel_rfl) (by kernel_rfl) c2 ac.plOk (by rfl) (by rfl) (by rfl) eh (by rfl) g0 g5 (by kernel_rfl) fun hy (fo:Kn 128 [(a,0),(x,z+(x_v20:Int).toNat*3),(bo,ci+(x_v20:Int).toNat*3)] ((tP 94 2 0)::(tI 93 x_v20)::(tS 92 b r_.buses.length e)::(tB 90 false)::(Gh x_v20)) hy)=>?_
          refine Dr [16,17] (dn 17) ((tA 96 [.int .i64 x94.tm.lo,.int .i64 x94.tm.hi])::(tB 90 false)::(Gh x_v20)) fo ce fun jk c3=>?_
          obtain⟨x97,ex97,p⟩:=Aq p
          refine F0 18 rfl (by kernel_rfl) (by decide) (Ak c3 (by kernel_rfl)) fun K hK=>?_
          refine wc [.agg [.int .i64 x94.tm.lo,.int .i64 x94.tm.hi],.c (.int .i64 2000)] c3 ce (J9 ao ce.has x94.tm ((Ab Ac Ac):rep cw x94.tm _) 2000 ex97) fun ke ip kr d7 gw aj=>?_
          obtain rfl:=d7
          refine⟨.one (.c (.bool x97)),rfl,fun hz (fp:Kn 128 [(a,0),(x,z+(x_v20:Int).toNat*3),(bo,ci+(x_v20:Int).toNat*3)] ((tB 97 x97)::(tA 96 [.int .i64 x94.tm.lo,.int .i64 x94.tm.hi])::(tB 90 false)::(Gh x_v20)) hz)=>hK _ _ aj.plOk ?_⟩
          refine Dr [19,20] (dn 20) ((tB 99 (!x97))::(Gh x_v20)) fp aj fun jm b4=>?_
          refine Ay (by kernel_rfl) (wC ((!x97)) b4 (fun bv=>?_) (fun bv=>?_))
          ·
           rw [bv,XW] at p
           refine XT (Aa (Rk 0 1 [tI 2 1] b4 aj fun jn fq=>?_))
           refine wf (wp_ret ?_)
           obtain rfl:=XZ p
           obtain rfl:=XZ H
           exact rt (.one (.c (.int .i64 1))) fq aj rfl
          ·
           rw [bv,XV] at p
           refine wp_skip (Aa (Rk 0 3 [tI 4 (IntKind.i64.wrap (x_v20+1)),tP 1 0 0] b4 aj fun jo fs=>?_))
           refine wf ?_
           exact XY ao ⟨Nat.lt_succ_self _,XY (IntKind.i64.wrap (x_v20+1)) ⟨_,_,rfl,(fs.keep [4,1] (by rfl)).cut 1 (by kernel_rfl),aj.cutPl 1 (by kernel_rfl),XU a9 (XU be (XU bf gw)),p⟩⟩
        ·
         rw [bu,XV] at p
         refine wp_exit ?_
         obtain rfl:=XZ p
         exact XY () ⟨_,_,rfl,b3.kp,af,a9,rfl⟩
      ·
       rintro _ ks ⟨ds,cn,av,rfl,fu,di,ca,rfl⟩
       rw [Ex.bind_go] at H
       replace o:=o.mono ca
       replace k:=k.mono ca
       replace l:=l.mono ca
       refine XT (XT (Aa (Rk 0 1 [tI 5 0,tP 1 0 0] fu di fun jp fv=>?_)))
       refine wf ?_
       obtain⟨dp,cv,H⟩:=Aq H
       refine Av (fun a' w'=>∃ (dt:Unit)(cp:Array Value)(bq:Ae),a' = ⟨cp,[]⟩∧Kn 128 [(a,0)] [] cp∧Ah ⟨w,h,Aj⟩ bq [(a,0)] [⟨Eb g r_ i b e d f,some 28⟩] [] w'∧Ae.le av bq∧dp=.go dt) ?_ ?_
       ·
        refine wp_block ?_
        refine Ar (fun hq a' w'=>∃ (x_v30:Int)(cq:Array Value)(ax:Ae),a' = ⟨cq,[]⟩∧Kn 128 [(a,0)] (Gi x_v30) cq∧Ah ⟨w,h,Aj⟩ ax [(a,0)] [⟨Eb g r_ i b e d f,some 28⟩] [] w'∧Ae.le av ax∧DP hq r_ x_v30=some dp) n ?_ ?_
        ·
         exact XY 0 ⟨_,_,rfl,fv.kp,di,Ae.le_refl _,cv⟩
        ·
         rintro ap _ ic ⟨x_v30,cq,ax,rfl,fw,ag,ba,q⟩
         clear cv
         obtain _ | ap:=ap
         ·
          rw [DP] at q; cases q
         rw [DP] at q
         replace o:=o.mono ba
         replace k:=k.mono ba
         replace l:=l.mono ba
         refine XT (XT (Aa (Rk 0 5 ((tB 104 (decide (x_v30<((r_.spares.length:Nat):Int))))::(Gi x_v30)) fw ag fun jq b6=>?_)))
         refine wf (wC (decide (x_v30<((r_.spares.length:Nat):Int))) b6 (fun bw=>?_) (fun bw=>?_))
         ·
          rw [bw,XW] at q
          refine wp_skip (XT (wp_block (XT (An (by kernel_rfl) ?_))))
          replace ag:=ag.drew
          refine Ao [] [(a,0)] [⟨Eb g r_ i b e d f,some 28⟩] ?_
          refine Dr [0,1,2] [2,1,0] ((tI 109 x_v30)::(tS 108 d r_.spares.length f)::(Gi x_v30)) b6 ag fun jr fx=>?_
          obtain⟨x110,ex110,q⟩:=Aq q
          obtain⟨g1,g6,hl⟩:=Ai ex110
          obtain⟨y,aa,ij,ei,hc,en⟩:=l.get (by decide) hl
          obtain⟨_,_,rfl,rfl,rfl⟩:=hc
          have cf:Ah ⟨w,h,Aj⟩ ax [(a,0),(y,aa+(x_v30:Int).toNat*2)] [⟨Eb g r_ i b e d f,some 28⟩,⟨[.int .i64 x110.stop,.int .i64 x110.tm],none⟩] [] (World.drew ic):=ag.addPlc (cs:=[.int .i64 x110.stop,.int .i64 x110.tm]) (fun j c hj=>en j _ (Al hj)) rfl (by kernel_rfl) (by kernel_rfl)
          refine Ax 3 (x_v30) [.int .i64 x110.stop,.int .i64 x110.tm] (fun _ _ _ _ _ h=>h) rfl rfl (rfl) rfl (by decide) (by kernel_rfl) (by kernel_rfl) fx ag.plOk (by rfl) (by rfl) (by rfl) ei (by rfl) g1 g6 (by kernel_rfl) fun h0 (fy:Kn 128 [(a,0),(y,aa+(x_v30:Int).toNat*2)] ((tP 110 1 0)::(tI 109 x_v30)::(tS 108 d r_.spares.length f)::(Gi x_v30)) h0)=>?_
          refine Dr [4,5,6] (dn 6) ((tA 113 (Eb g r_ i b e d f))::(tI 112 x110.stop)::(Gi x_v30)) fy cf fun js fz=>?_
          obtain⟨x114,ex114,q⟩:=Aq q
          refine Dl 7 fun K hK=>?_
          refine wc [.agg (Eb g r_ i b e d f)] fz cf (GD ap cf.has r_ ((Ab (Ad o) (Ab (Ab Ac Ac) (Ab (Ad k) (Ab (Ad l) (Ab Ac (Ab Ac (Ab Ac Ac))))))):rep ax r_ _) ex114) fun kf iq ku d8 bg bl=>?_
          obtain rfl:=d8
          refine⟨.one (.c (.int .i64 x114)),rfl,fun h1 (f0:Kn 128 [(a,0),(y,aa+(x_v30:Int).toNat*2)] ((tI 114 x114)::(tA 113 (Eb g r_ i b e d f))::(tI 112 x110.stop)::(Gi x_v30)) h1)=>hK _ _ bl.plOk ?_⟩
          refine Dr [8] (dn 8) ((tI 115 (IntKind.i64.wrap (x114-1)))::(tI 112 x110.stop)::(Gi x_v30)) f0 bl fun jt f1=>?_
          obtain⟨x116,ex116,q⟩:=Aq q
          refine Dl 9 fun K hK=>?_
          refine wc [.c (.int .i64 x110.stop),.c (.int .i64 0),.c (.int .i64 (IntKind.i64.wrap (x114-1)))] f1 bl (Ff ap bl.has x110.stop 0 (IntKind.i64.wrap (x114-1)) ex116) fun kg ee ie d9 bh ad=>?_
          replace o:=o.mono (XU bg bh)
          replace k:=k.mono (XU bg bh)
          replace l:=l.mono (XU bg bh)
          obtain rfl:=d9
          refine⟨.one (.c (.bool x116)),rfl,fun h2 (f2:Kn 128 [(a,0),(y,aa+(x_v30:Int).toNat*2)] ((tB 116 x116)::(tI 115 (IntKind.i64.wrap (x114-1)))::(tI 112 x110.stop)::(Gi x_v30)) h2)=>hK _ _ ad.plOk ?_⟩
          refine Dr [10,11] (dn 11) ((tB 118 (!x116))::(Gi x_v30)) f2 ad fun dx c4=>?_
          rcases Bool.eq_false_or_eq_true ((!x116)) with a2 | a2
          ·
           rw [a2,XW] at q
           have f3:Kn 128 [(a,0),(y,aa+(x_v30:Int).toNat*2)] ((tB 118 true)::(Gi x_v30)) dx:=(c4.setB 118 true (by rfl) a2).kp
           refine Dr [12,13,14,15,16,17,18,19,20] (dn 20) ((tB 127 true)::(Gi x_v30)) f3 ad fun jv c5=>?_
           refine Ay (by kernel_rfl) (wC true c5 (fun hb=>?_) (fun hb=>?_))
           rotate_left
           ·
            cases hb
           refine XT (Aa (Rk 0 1 [tI 2 1] c5 ad fun jw f4=>?_))
           refine wf (wp_ret ?_)
           obtain rfl:=XZ q
           obtain rfl:=XZ H
           exact rt (.one (.c (.int .i64 1))) f4 ad rfl
          ·
           rw [a2,XV] at q
           have f5:Kn 128 [(a,0),(y,aa+(x_v30:Int).toNat*2)] ((tB 118 false)::(Gi x_v30)) dx:=(c4.setB 118 false (by rfl) a2).kp
           refine Dr [12,13,14] (dn 14) ((tI 121 x_v30)::(tS 120 d r_.spares.length f)::(tB 118 false)::(Gi x_v30)) f5 ad fun jx c6=>?_
           obtain⟨x122,ex122,q⟩:=Aq q
           obtain⟨g2,g7,hn⟩:=Ai ex122
           obtain⟨bp,cj,ik,ej,hd,eo⟩:=l.get (by decide) hn
           obtain⟨_,_,rfl,rfl,rfl⟩:=hd
           have cg:Ah ⟨w,h,Aj⟩ ee [(a,0),(y,aa+(x_v30:Int).toNat*2),(bp,cj+(x_v30:Int).toNat*2)] [⟨Eb g r_ i b e d f,some 28⟩,⟨[.int .i64 x110.stop,.int .i64 x110.tm],none⟩,⟨[.int .i64 x122.stop,.int .i64 x122.tm],none⟩] [] ie:=ad.addPlc (cs:=[.int .i64 x122.stop,.int .i64 x122.tm]) (fun j c hj=>eo j _ (Al hj)) rfl (by kernel_rfl) (by kernel_rfl)
           refine Ax 15 (x_v30) [.int .i64 x122.stop,.int .i64 x122.tm] (fun _ _ _ _ _ h=>h) rfl rfl (Ak c6 (by kernel_rfl)) rfl (by decide) (by kernel_rfl) (by kernel_rfl) c6 ad.plOk (by rfl) (by rfl) (by rfl) ej (by rfl) g2 g7 (by kernel_rfl) fun h3 (f7:Kn 128 [(a,0),(y,aa+(x_v30:Int).toNat*2),(bp,cj+(x_v30:Int).toNat*2)] ((tP 122 2 0)::(tI 121 x_v30)::(tS 120 d r_.spares.length f)::(tB 118 false)::(Gi x_v30)) h3)=>?_
           refine Dr [16,17] (dn 17) ((tI 124 x122.tm)::(tB 118 false)::(Gi x_v30)) f7 cg fun jy c7=>?_
           obtain⟨x125,ex125,q⟩:=Aq q
           refine F0 18 rfl (by kernel_rfl) (by decide) (Ak c7 (by kernel_rfl)) fun K hK=>?_
           refine wc [.c (.int .i64 x122.tm),.c (.int .i64 0),.c (.int .i64 2000)] c7 cg (Ff ap cg.has x122.tm 0 2000 ex125) fun kh ir kv ea gx ak=>?_
           obtain rfl:=ea
           refine⟨.one (.c (.bool x125)),rfl,fun h4 (f8:Kn 128 [(a,0),(y,aa+(x_v30:Int).toNat*2),(bp,cj+(x_v30:Int).toNat*2)] ((tB 125 x125)::(tI 124 x122.tm)::(tB 118 false)::(Gi x_v30)) h4)=>hK _ _ ak.plOk ?_⟩
           refine Dr [19,20] (dn 20) ((tB 127 (!x125))::(Gi x_v30)) f8 ak fun jz b7=>?_
           refine Ay (by kernel_rfl) (wC ((!x125)) b7 (fun bz=>?_) (fun bz=>?_))
           ·
            rw [bz,XW] at q
            refine XT (Aa (Rk 0 1 [tI 2 1] b7 ak fun j0 f9=>?_))
            refine wf (wp_ret ?_)
            obtain rfl:=XZ q
            obtain rfl:=XZ H
            exact rt (.one (.c (.int .i64 1))) f9 ak rfl
           ·
            rw [bz,XV] at q
            refine wp_skip (Aa (Rk 0 3 [tI 5 (IntKind.i64.wrap (x_v30+1)),tP 1 0 0] b7 ak fun j1 ga=>?_))
            refine wf ?_
            exact XY ap ⟨Nat.lt_succ_self _,XY (IntKind.i64.wrap (x_v30+1)) ⟨_,_,rfl,(ga.keep [5,1] (by rfl)).cut 1 (by kernel_rfl),ak.cutPl 1 (by kernel_rfl),XU ba (XU bg (XU bh gx)),q⟩⟩
         ·
          rw [bw,XV] at q
          refine wp_exit ?_
          obtain rfl:=XZ q
          exact XY () ⟨_,_,rfl,b6.kp,ag,ba,rfl⟩
       ·
        rintro _ kw ⟨dt,cp,bq,rfl,gb,dj,ix,rfl⟩
        rw [Ex.bind_go] at H
        refine XT (Aa (Rk 0 1 [tI 2 0] gb dj fun j2 gc=>?_))
        refine wf (wp_ret ?_)
        obtain rfl:=XZ H
        exact rt (.one (.c (.int .i64 0))) gc dj rfl
abbrev Sz (b:Option Addr) (r_:Af) (g:Nat) (d:Option Addr) (i:Nat) (e:Option Addr) (j:Nat):List SC:=[.slice b r_.legs.length g,.int .i64 r_.turn.lo,.int .i64 r_.turn.hi,.slice d r_.buses.length i,.slice e r_.spares.length j,.int .i64 r_.unit,.int .i64 r_.gap,.int .i64 r_.fr,.int .i64 r_.to_]
set_option maxRecDepth 100000 in
set_option maxHeartbeats 4000000 in
theorem Rb (n:Nat) {h:Ae} {w:World} (hh:Dn h w) (r_:Af) {cs_r_:List Value} (hx_r_:rep h r_ cs_r_) {r:Bool} (H:Lo n r_=some r) :
  Calls Try.prog 32 #[.agg cs_r_.toArray] w (Dp (fun h v=>v=.bool r) h w):=by
 obtain⟨_,_,rfl,⟨b,g,rfl,ag⟩,⟨_,_,rfl,⟨_,_,rfl,rfl,rfl⟩,⟨_,_,rfl,⟨d,i,rfl,ah⟩,⟨_,_,rfl,⟨e,j,rfl,ai⟩,⟨_,_,rfl,rfl,⟨_,_,rfl,rfl,⟨_,_,rfl,rfl,rfl⟩⟩⟩⟩⟩⟩⟩:=hx_r_
 refine enter 19 [.agg (Sz b r_ g d i e j)] Try.func32 rfl rfl rfl rfl fun t hk=>?_
 have hm:=Ah.begin h w hh
 unfold Lo at H
 refine XT (Aa (wl fun K hK=>?_))
 refine wb (.agg (Sz b r_ g d i e j)) hk hm fun f ae af (s:Kn 19 [(f,0)] [tP 1 0 0,tA 0 (Sz b r_ g d i e j)] ae) (a:Ah ⟨w,h,Aj⟩ h [(f,0)] [⟨Sz b r_ g d i e j,some 28⟩] [] af)=>hK _ _ ?_
 refine Rk 1 1 [tP 1 0 0] s a fun aj u=>?_
 refine wf (XT (Aa (Rk 0 5 [tB 7 (decide (((r_.legs.length:Nat):Int)≤10)),tP 1 0 0] u a fun p m=>?_)))
 rcases Bool.eq_false_or_eq_true (decide (((r_.legs.length:Nat):Int)≤10)) with k | k
 ·
  rw [k,XW] at H
  have x:Kn 19 [(f,0)] [tB 7 true,tP 1 0 0] p:=(m.setB 7 true (by rfl) k).kp
  refine Rk 5 6 [tB 13 (decide (((r_.buses.length:Nat):Int)≤6)),tP 1 0 0] x a fun q o=>?_
  rcases Bool.eq_false_or_eq_true (decide (((r_.buses.length:Nat):Int)≤6)) with l | l
  ·
   rw [l,XW] at H
   have y:Kn 19 [(f,0)] [tB 13 true,tP 1 0 0] q:=(o.setB 13 true (by rfl) l).kp
   refine Rk 11 6 [tB 2 (decide (((r_.spares.length:Nat):Int)≤4))] y a fun ak z=>?_
   refine wf (wp_ret ?_)
   obtain rfl:=XZ H
   exact rt (.one (.c (.bool (decide (((r_.spares.length:Nat):Int)≤4))))) z a rfl
  ·
   rw [l,XV] at H
   have aa:Kn 19 [(f,0)] [tB 13 false,tP 1 0 0] q:=(o.setB 13 false (by rfl) l).kp
   refine Rk 11 6 [tB 2 false] aa a fun al ab=>?_
   refine wf (wp_ret ?_)
   obtain rfl:=XZ H
   exact rt (.one (.c (.bool false))) ab a rfl
 ·
  rw [k,XV] at H
  have ac:Kn 19 [(f,0)] [tB 7 false,tP 1 0 0] p:=(m.setB 7 false (by rfl) k).kp
  refine Rk 5 12 [tB 2 false] ac a fun am ad=>?_
  refine wf (wp_ret ?_)
  obtain rfl:=XZ H
  exact rt (.one (.c (.bool false))) ad a rfl
abbrev JA (a_a:Option Addr) (a:List Int) (c_a:Nat) (a_b:Option Addr) (b:List Int) (c_b:Nat):TM:=[tS 0 a_a a.length c_a,tS 1 a_b b.length c_b]
set_option maxRecDepth 100000 in
set_option maxHeartbeats 4000000 in
theorem JB (n:Nat) {h:Ae} {w:World} (hh:Dn h w) (a:List Int) {a_a:Option Addr} {c_a:Nat} (hr_a:A6 h a_a c_a a) (b:List Int) {a_b:Option Addr} {c_b:Nat} (hr_b:A6 h a_b c_b b) {r:Bool} (H:GT n a b=some r) :
  Calls Try.prog 44 #[.slice a_a a.length c_a,.slice a_b b.length c_b] w (Dp (fun h v=>v=.bool r) h w):=by
 refine enter 26 [.c (.slice a_a a.length c_a),.c (.slice a_b b.length c_b)] Try.func44 rfl rfl rfl rfl fun t hk=>?_
 have hm:=Ah.begin h w hh
 unfold GT at H
 refine XT (Aa (Rk 0 1 (JA a_a a c_a a_b b c_b) hk hm fun bf an=>?_))
 refine wf (XT (XT (Aa (Rk 0 5 ((tB 10 (((a.length:Nat):Int) != ((b.length:Nat):Int)))::(JA a_a a c_a a_b b c_b)) an hm fun bi u=>?_))))
 refine wf (wC ((((a.length:Nat):Int) != ((b.length:Nat):Int))) u (fun p=>?_) (fun p=>?_))
 ·
  rw [p,XW] at H
  refine XT (Aa (Rk 0 1 [tB 4 false] u hm fun bm az=>?_))
  refine wf (wp_ret ?_)
  obtain rfl:=XZ H
  exact rt (.one (.c (.bool false))) az hm rfl
 ·
  rw [p,XV] at H
  refine wp_skip (XT (XT (Aa (Rk 0 1 ((tI 5 0)::(JA a_a a c_a a_b b c_b)) u hm fun bp a0=>?_))))
  refine wf ?_
  obtain⟨af,ad,H⟩:=Aq H
  refine Av (fun a' w'=>∃ (ah:Unit)(aa:Array Value)(m:Ae),a' = ⟨aa,[]⟩∧Kn 26 [] [] aa∧Ah ⟨w,h,Aj⟩ m [] [] [] w'∧Ae.le h m∧af=.go ah) ?_ ?_
  ·
   refine wp_block ?_
   refine Ar (fun a9 a' w'=>∃ (x_v10:Int)(ab:Array Value)(f:Ae),a' = ⟨ab,[]⟩∧Kn 26 [] ((tI 5 x_v10)::(JA a_a a c_a a_b b c_b)) ab∧Ah ⟨w,h,Aj⟩ f [] [] [] w'∧Ae.le h f∧Er a9 a b x_v10=some af) n ?_ ?_
   ·
    exact XY 0 ⟨_,_,rfl,a0.kp,hm,Ae.le_refl _,ad⟩
   ·
    rintro z _ ai ⟨x_v10,ab,f,rfl,ao,e,k,d⟩
    clear ad
    obtain _ | z:=z
    ·
     rw [Er] at d; cases d
    rw [Er] at d
    replace hr_a:=hr_a.mono k
    replace hr_b:=hr_b.mono k
    refine XT (XT (Aa (Rk 0 4 ((tB 14 (decide (x_v10<((a.length:Nat):Int))))::(tI 5 x_v10)::(JA a_a a c_a a_b b c_b)) ao e fun bg s=>?_)))
    refine wf (wC (decide (x_v10<((a.length:Nat):Int))) s (fun o=>?_) (fun o=>?_))
    ·
     rw [o,XW] at d
     refine wp_skip (XT (wp_block (XT (An (by kernel_rfl) ?_))))
     replace e:=e.drew
     refine Ao [] [] [] ?_
     refine Dr [0,1] [1,0] ((tI 18 x_v10)::(tS 17 a_a a.length c_a)::(tI 5 x_v10)::(JA a_a a c_a a_b b c_b)) s e fun bh ap=>?_
     obtain⟨x19,ex19,d⟩:=Aq d
     obtain⟨a1,a3,a7⟩:=Ai ex19
     obtain⟨i,l,bc,aj,a5,al⟩:=hr_a.get (by decide) a7
     obtain rfl:=a5
     have y:Ah ⟨w,h,Aj⟩ f [(i,l+(x_v10:Int).toNat*1)] [⟨[.int .i64 x19],none⟩] [] (World.drew ai):=e.addPlc (cs:=[.int .i64 x19]) (fun j c hj=>al j _ (Al hj)) rfl (by kernel_rfl) (by kernel_rfl)
     refine Ax 2 (x_v10) [.int .i64 x19] (fun _ _ _ _ _ h=>h) rfl rfl (rfl) rfl (by decide) (by kernel_rfl) (by kernel_rfl) ap e.plOk (by rfl) (by rfl) (by rfl) aj (by rfl) a1 a3 (by kernel_rfl) fun ba (aq:Kn 26 [(i,l+(x_v10:Int).toNat*1)] ((tP 19 0 0)::(tI 18 x_v10)::(tS 17 a_a a.length c_a)::(tI 5 x_v10)::(JA a_a a c_a a_b b c_b)) ba)=>?_
     refine Dr [3,4,5] (dn 5) ((tI 22 x_v10)::(tS 21 a_b b.length c_b)::(tI 20 x19)::(tI 5 x_v10)::(JA a_a a c_a a_b b c_b)) aq y fun bj ar=>?_
     obtain⟨x23,ex23,d⟩:=Aq d
     obtain⟨a2,a4,a8⟩:=Ai ex23
     obtain⟨ac,ag,bd,ak,a6,am⟩:=hr_b.get (by decide) a8
     obtain rfl:=a6
     have g:Ah ⟨w,h,Aj⟩ f [(i,l+(x_v10:Int).toNat*1),(ac,ag+(x_v10:Int).toNat*1)] [⟨[.int .i64 x19],none⟩,⟨[.int .i64 x23],none⟩] [] (World.drew ai):=y.addPlc (cs:=[.int .i64 x23]) (fun j c hj=>am j _ (Al hj)) rfl (by kernel_rfl) (by kernel_rfl)
     refine Ax 6 (x_v10) [.int .i64 x23] (fun _ _ _ _ _ h=>h) rfl rfl (rfl) rfl (by decide) (by kernel_rfl) (by kernel_rfl) ar y.plOk (by rfl) (by rfl) (by rfl) ak (by rfl) a2 a4 (by kernel_rfl) fun bb (au:Kn 26 [(i,l+(x_v10:Int).toNat*1),(ac,ag+(x_v10:Int).toNat*1)] ((tP 23 1 0)::(tI 22 x_v10)::(tS 21 a_b b.length c_b)::(tI 20 x19)::(tI 5 x_v10)::(JA a_a a c_a a_b b c_b)) bb)=>?_
     refine Dr [7,8] (dn 8) ((tB 25 (x19 != x23))::(tI 5 x_v10)::(JA a_a a c_a a_b b c_b)) au g fun bk x=>?_
     refine Ay (by kernel_rfl) (wC ((x19 != x23)) x (fun q=>?_) (fun q=>?_))
     ·
      rw [q,XW] at d
      refine XT (Aa (Rk 0 1 [tB 4 false] x g fun bl av=>?_))
      refine wf (wp_ret ?_)
      obtain rfl:=XZ d
      obtain rfl:=XZ H
      exact rt (.one (.c (.bool false))) av g rfl
     ·
      rw [q,XV] at d
      refine wp_skip (Aa (Rk 0 3 ((tI 5 (IntKind.i64.wrap (x_v10+1)))::(JA a_a a c_a a_b b c_b)) x g fun bn aw=>?_))
      refine wf ?_
      exact XY z ⟨Nat.lt_succ_self _,XY (IntKind.i64.wrap (x_v10+1)) ⟨_,_,rfl,(aw.keep [5,0,1] (by rfl)).cut 0 (by kernel_rfl),g.cutPl 0 (by kernel_rfl),k,d⟩⟩
    ·
     rw [o,XV] at d
     refine wp_exit ?_
     obtain rfl:=XZ d
     exact XY () ⟨_,_,rfl,s.kp,e,k,rfl⟩
  ·
   rintro _ bq ⟨ah,aa,m,rfl,ax,ae,be,rfl⟩
   rw [Ex.bind_go] at H
   refine XT (Aa (Rk 0 1 [tB 4 true] ax ae fun bo ay=>?_))
   refine wf (wp_ret ?_)
   obtain rfl:=XZ H
   exact rt (.one (.c (.bool true))) ay ae rfl
end Go.Proofs.Ytokchpjijlebiaa
