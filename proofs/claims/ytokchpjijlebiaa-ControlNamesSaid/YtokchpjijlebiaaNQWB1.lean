/- Each call computes its plain function. -/
import Derived.Test.YtokchpjijlebiaaProg
import Derived.Test.YtokchpjijlebiaaNQP0
import Derived.Test.YtokchpjijlebiaaNQWQ
import Derived.Test.YtokchpjijlebiaaNQWX
set_option linter.all false
namespace Go.Proofs.Ytokchpjijlebiaa
open Go Go.RowKit
open Rep (rep)
open KRep (kv)
open VRep (rv)
abbrev K7 (d:Option Addr) (a:A0) (j:Nat) (e:Option Addr) (k:Nat) (f:Option Addr) (l:Nat):List SC:=[.slice d a.holds.length j,.slice e a.turns.length k,.slice f a.spares.length l]
abbrev K8 (b:Option Addr) (r_:Ag) (m:Nat) (g:Option Addr) (o:Nat) (i:Option Addr) (p:Nat):List SC:=[.slice b r_.legs.length m,.int .i64 r_.turn.lo,.int .i64 r_.turn.hi,.slice g r_.buses.length o,.slice i r_.spares.length p,.int .i64 r_.unit,.int .i64 r_.gap,.int .i64 r_.fr,.int .i64 r_.to_]
abbrev OJ (b:Option Addr) (r_:Ag) (m:Nat) (g:Option Addr) (o:Nat) (i:Option Addr) (p:Nat) (d:Option Addr) (a:A0) (j:Nat) (e:Option Addr) (k:Nat) (f:Option Addr) (l:Nat):List SC:=[.slice b r_.legs.length m,.int .i64 r_.turn.lo,.int .i64 r_.turn.hi,.slice g r_.buses.length o,.slice i r_.spares.length p,.int .i64 r_.unit,.int .i64 r_.gap,.int .i64 r_.fr,.int .i64 r_.to_,.slice d a.holds.length j,.slice e a.turns.length k,.slice f a.spares.length l]
set_option maxRecDepth 100000 in
set_option maxHeartbeats 4000000 in
theorem C0 (n:Nat) {h:Ad} {w:World} (hh:Dv h w) (r_:Ag) {cs_r_:List Value} (hx_r_:rep h r_ cs_r_) (a:A0) {cs_a:List Value} (hx_a:rep h a cs_a) {r:(List Int)×Int} (H:Cx n r_ a=some r) :
  Calls Try.prog 25 #[.agg cs_r_.toArray,.agg cs_a.toArray] w (D6 (fun h v=>∃ v0 v1,v=.tuple #[v0,v1]∧(∃ a c,v0=.slice a r.1.length c∧Ar h a c r.1)∧(v1=.int .i64 r.2)) h w):=by
 obtain⟨_,_,rfl,⟨b,m,rfl,ad⟩,⟨_,_,rfl,⟨_,_,rfl,rfl,rfl⟩,⟨_,_,rfl,⟨g,o,rfl,ae⟩,⟨_,_,rfl,⟨i,p,rfl,af⟩,⟨_,_,rfl,rfl,⟨_,_,rfl,rfl,⟨_,_,rfl,rfl,rfl⟩⟩⟩⟩⟩⟩⟩:=hx_r_
 obtain⟨_,_,rfl,⟨d,j,rfl,aa⟩,⟨_,_,rfl,⟨e,k,rfl,ab⟩,⟨f,l,rfl,ac⟩⟩⟩:=hx_a
 refine enter 17 [.agg (K8 b r_ m g o i p),.agg (K7 d a j e k f l)] Try.func25 rfl rfl rfl rfl fun t hk=>?_
 have hm:=Ah.begin h w hh
 unfold Cx at H
 refine QT (Ab (wl fun K hK=>?_))
 refine wb (.agg (K8 b r_ m g o i p)) hk hm fun x a1 bg (an:Kn 17 [(x,0)] [tP 2 0 0,tA 0 (K8 b r_ m g o i p),tA 1 (K7 d a j e k f l)] a1) az=>hK _ _ ?_
 refine wl fun K hK=>?_
 refine wb (.agg (K7 d a j e k f l)) an az fun ag a2 bh (ao:Kn 17 [(x,0),(ag,0)] [tP 3 1 0,tP 2 0 0,tA 0 (K8 b r_ m g o i p),tA 1 (K7 d a j e k f l)] a2) z=>hK _ _ ?_
 refine Rk 2 2 [tP 3 1 0,tP 2 0 0] ao z fun a7 ap=>?_
 refine wf (QT (QT (Ab (Rk 0 2 [tA 8 (K7 d a j e k f l),tA 7 (K8 b r_ m g o i p),tP 3 1 0,tP 2 0 0] ap z fun a8 aq=>?_))))
 obtain⟨x9,ex9,H⟩:=A3 H
 refine wl fun K hK=>?_
 refine wc [.agg (K8 b r_ m g o i p),.agg (K7 d a j e k f l)] aq z (D4 n z.has r_ ((Aa (Ae ad) (Aa (Aa Ac Ac) (Aa (Ae ae) (Aa (Ae af) (Aa Ac (Aa Ac (Aa Ac Ac))))))):rep h r_ _) a ((Aa (Ae aa) (Aa (Ae ab) (Ae ac))):rep h a _) ex9) fun be am bi ak s q=>?_
 replace ad:=ad.mono s
 replace ae:=ae.mono s
 replace af:=af.mono s
 replace aa:=aa.mono s
 replace ab:=ab.mono s
 replace ac:=ac.mono s
 obtain rfl:=ak
 refine⟨.one (.c (.int .i64 x9)),rfl,fun a3 (ar:Kn 17 [(x,0),(ag,0)] [tI 9 x9,tA 8 (K7 d a j e k f l),tA 7 (K8 b r_ m g o i p),tP 3 1 0,tP 2 0 0] a3)=>hK _ _ ?_⟩
 refine Rk 3 1 [tI 6 x9,tP 3 1 0,tP 2 0 0] ar q fun a9 au=>?_
 refine wf (QT (Ab (Rk 0 2 [tB 11 (x9 != 0),tI 6 x9,tP 3 1 0,tP 2 0 0] au q fun ba ai=>?_)))
 refine wf (wC ((x9 != 0)) ai (fun ah=>?_) (fun ah=>?_))
 ·
  rw [ah,QW] at H
  refine QT (Ab (Rk 0 3 [tI 5 x9,tS 4 none 0 0] ai q fun bb av=>?_))
  refine wf (wp_ret ?_)
  obtain rfl:=QZ H
  exact rt (.tup [.c (.slice none 0 0),.c (.int .i64 x9)]) av q ⟨_,_,rfl,⟨_,_,rfl,Ar.nil⟩,rfl⟩
 ·
  rw [ah,QV] at H
  refine wp_skip (QT (Ab (Rk 0 3 [tA 15 (OJ b r_ m g o i p d a j e k f l)] ai q fun bc aw=>?_)))
  obtain⟨x16,ex16,H⟩:=A3 H
  refine wl fun K hK=>?_
  refine wc [.agg (OJ b r_ m g o i p d a j e k f l)] aw q (Es n q.has (AC.mk r_ a) ((Aa (Aa (Ae ad) (Aa (Aa Ac Ac) (Aa (Ae ae) (Aa (Ae af) (Aa Ac (Aa Ac (Aa Ac Ac))))))) (Aa (Ae aa) (Aa (Ae ab) (Ae ac)))):rep am (AC.mk r_ a) _) ex16) fun bf a5 bj al a6 aj=>?_
  obtain⟨u,y,rfl,a0⟩:=al
  refine⟨.one (.c (.slice u x16.length y)),rfl,fun a4 (ax:Kn 17 [(x,0),(ag,0)] [tS 16 u x16.length y,tA 15 (OJ b r_ m g o i p d a j e k f l)] a4)=>hK _ _ ?_⟩
  refine Rk 4 2 [tI 5 0,tS 4 u x16.length y] ax aj fun bd ay=>?_
  refine wf (wp_ret ?_)
  obtain rfl:=QZ H
  exact rt (.tup [.c (.slice u x16.length y),.c (.int .i64 0)]) ay aj ⟨_,_,rfl,⟨_,_,rfl,a0⟩,rfl⟩
end Go.Proofs.Ytokchpjijlebiaa
