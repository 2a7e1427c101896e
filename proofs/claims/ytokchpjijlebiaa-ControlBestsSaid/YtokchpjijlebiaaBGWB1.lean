/- Each call computes its plain function. -/
import Derived.Test.YtokchpjijlebiaaProg
import Derived.Test.YtokchpjijlebiaaBGP0
import Derived.Test.YtokchpjijlebiaaBGWQ
import Derived.Test.YtokchpjijlebiaaBGWX
set_option linter.all false
namespace Go.Proofs.Ytokchpjijlebiaa
open Go Go.RowKit
open Rep (rep)
open KRep (kv)
open VRep (rv)
abbrev MZ (j:Option Addr) (a:Am) (m:Nat) (k:Option Addr) (o:Nat) (l:Option Addr) (p:Nat):List SC:=[.slice j a.holds.length m,.slice k a.turns.length o,.slice l a.spares.length p]
abbrev LI (b:Option Addr) (r_:Af) (f:Nat) (d:Option Addr) (g:Nat) (e:Option Addr) (i:Nat):List SC:=[.slice b r_.legs.length f,.int .i64 r_.turn.lo,.int .i64 r_.turn.hi,.slice d r_.buses.length g,.slice e r_.spares.length i,.int .i64 r_.unit,.int .i64 r_.gap,.int .i64 r_.fr,.int .i64 r_.to_]
abbrev TJ (b:Option Addr) (r_:Af) (f:Nat) (d:Option Addr) (g:Nat) (e:Option Addr) (i:Nat) (j:Option Addr) (a:Am) (m:Nat) (k:Option Addr) (o:Nat) (l:Option Addr) (p:Nat):List SC:=[.slice b r_.legs.length f,.int .i64 r_.turn.lo,.int .i64 r_.turn.hi,.slice d r_.buses.length g,.slice e r_.spares.length i,.int .i64 r_.unit,.int .i64 r_.gap,.int .i64 r_.fr,.int .i64 r_.to_,.slice j a.holds.length m,.slice k a.turns.length o,.slice l a.spares.length p]
set_option maxRecDepth 100000 in
set_option maxHeartbeats 4000000 in
theorem Mr (n:Nat) {h:Ae} {w:World} (hh:Dn h w) (r_:Af) {cs_r_:List Value} (hx_r_:rep h r_ cs_r_) (a:Am) {cs_a:List Value} (hx_a:rep h a cs_a) {r:(List Int)×Int} (H:H3 n r_ a=some r) :
  Calls Try.prog 25 #[.agg cs_r_.toArray,.agg cs_a.toArray] w (Dp (fun h v=>∃ v0 v1,v=.tuple #[v0,v1]∧(∃ a c,v0=.slice a r.1.length c∧A6 h a c r.1)∧(v1=.int .i64 r.2)) h w):=by
 obtain⟨_,_,rfl,⟨b,f,rfl,ae⟩,⟨_,_,rfl,⟨_,_,rfl,rfl,rfl⟩,⟨_,_,rfl,⟨d,g,rfl,af⟩,⟨_,_,rfl,⟨e,i,rfl,ag⟩,⟨_,_,rfl,rfl,⟨_,_,rfl,rfl,⟨_,_,rfl,rfl,rfl⟩⟩⟩⟩⟩⟩⟩:=hx_r_
 obtain⟨_,_,rfl,⟨j,m,rfl,ab⟩,⟨_,_,rfl,⟨k,o,rfl,ac⟩,⟨l,p,rfl,ad⟩⟩⟩:=hx_a
 refine enter 17 [.agg (LI b r_ f d g e i),.agg (MZ j a m k o l p)] Try.func25 rfl rfl rfl rfl fun t hk=>?_
 have hm:=Ah.begin h w hh
 unfold H3 at H
 refine XT (Aa (wl fun K hK=>?_))
 refine wb (.agg (LI b r_ f d g e i)) hk hm fun s a1 a5 (an:Kn 17 [(s,0)] [tP 2 0 0,tA 0 (LI b r_ f d g e i),tA 1 (MZ j a m k o l p)] a1) (az:Ah ⟨w,h,Aj⟩ h [(s,0)] [⟨LI b r_ f d g e i,some 43⟩] [] a5)=>hK _ _ ?_
 refine wl fun K hK=>?_
 refine wb (.agg (MZ j a m k o l p)) an az fun y a2 a6 (ao:Kn 17 [(s,0),(y,0)] [tP 3 1 0,tP 2 0 0,tA 0 (LI b r_ f d g e i),tA 1 (MZ j a m k o l p)] a2) (aa:Ah ⟨w,h,Aj⟩ h [(s,0),(y,0)] [⟨LI b r_ f d g e i,some 43⟩,⟨MZ j a m k o l p,some 34⟩] [] a6)=>hK _ _ ?_
 refine Rk 2 2 [tP 3 1 0,tP 2 0 0] ao aa fun a9 ap=>?_
 refine wf (XT (XT (Aa (Rk 0 2 [tA 8 (MZ j a m k o l p),tA 7 (LI b r_ f d g e i),tP 3 1 0,tP 2 0 0] ap aa fun ba aq=>?_))))
 obtain⟨x9,ex9,H⟩:=Aq H
 refine wl fun K hK=>?_
 refine wc [.agg (LI b r_ f d g e i),.agg (MZ j a m k o l p)] aq aa (Ja n aa.has r_ ((Ab (Ad ae) (Ab (Ab Ac Ac) (Ab (Ad af) (Ab (Ad ag) (Ab Ac (Ab Ac (Ab Ac Ac))))))):rep h r_ _) a ((Ab (Ad ab) (Ab (Ad ac) (Ad ad))):rep h a _) ex9) fun bg am bi ak u q=>?_
 replace ae:=ae.mono u
 replace af:=af.mono u
 replace ag:=ag.mono u
 replace ab:=ab.mono u
 replace ac:=ac.mono u
 replace ad:=ad.mono u
 obtain rfl:=ak
 refine⟨.one (.c (.int .i64 x9)),rfl,fun a3 (ar:Kn 17 [(s,0),(y,0)] [tI 9 x9,tA 8 (MZ j a m k o l p),tA 7 (LI b r_ f d g e i),tP 3 1 0,tP 2 0 0] a3)=>hK _ _ ?_⟩
 refine Rk 3 1 [tI 6 x9,tP 3 1 0,tP 2 0 0] ar q fun bb au=>?_
 refine wf (XT (Aa (Rk 0 2 [tB 11 (x9 != 0),tI 6 x9,tP 3 1 0,tP 2 0 0] au q fun bc ai=>?_)))
 refine wf (wC ((x9 != 0)) ai (fun ah=>?_) (fun ah=>?_))
 ·
  rw [ah,XW] at H
  refine XT (Aa (Rk 0 3 [tI 5 x9,tS 4 none 0 0] ai q fun bd av=>?_))
  refine wf (wp_ret ?_)
  obtain rfl:=XZ H
  exact rt (.tup [.c (.slice none 0 0),.c (.int .i64 x9)]) av q ⟨_,_,rfl,⟨_,_,rfl,A6.nil⟩,rfl⟩
 ·
  rw [ah,XV] at H
  refine wp_skip (XT (Aa (Rk 0 3 [tA 15 (TJ b r_ f d g e i j a m k o l p)] ai q fun be aw=>?_)))
  obtain⟨x16,ex16,H⟩:=Aq H
  refine wl fun K hK=>?_
  refine wc [.agg (TJ b r_ f d g e i j a m k o l p)] aw q (Fo n q.has (B3.mk r_ a) ((Ab (Ab (Ad ae) (Ab (Ab Ac Ac) (Ab (Ad af) (Ab (Ad ag) (Ab Ac (Ab Ac (Ab Ac Ac))))))) (Ab (Ad ab) (Ab (Ad ac) (Ad ad)))):rep am (B3.mk r_ a) _) ex16) fun bh a7 bj al a8 aj=>?_
  obtain⟨x,z,rfl,a0⟩:=al
  refine⟨.one (.c (.slice x x16.length z)),rfl,fun a4 (ax:Kn 17 [(s,0),(y,0)] [tS 16 x x16.length z,tA 15 (TJ b r_ f d g e i j a m k o l p)] a4)=>hK _ _ ?_⟩
  refine Rk 4 2 [tI 5 0,tS 4 x x16.length z] ax aj fun bf ay=>?_
  refine wf (wp_ret ?_)
  obtain rfl:=XZ H
  exact rt (.tup [.c (.slice x x16.length z),.c (.int .i64 0)]) ay aj ⟨_,_,rfl,⟨_,_,rfl,a0⟩,rfl⟩
end Go.Proofs.Ytokchpjijlebiaa
