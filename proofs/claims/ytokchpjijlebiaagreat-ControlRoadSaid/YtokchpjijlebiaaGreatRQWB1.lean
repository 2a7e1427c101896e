/- Each call computes its plain function. -/
import Derived.Test.YtokchpjijlebiaaGreatProg
import Derived.Test.YtokchpjijlebiaaGreatRQWQ
import Derived.Test.YtokchpjijlebiaaGreatRQWX
set_option linter.all false
namespace Go.Proofs.YtokchpjijlebiaaGreat
open Go Go.RowKit
set_option maxRecDepth 100000
set_option maxHeartbeats 4000000
open Rep (rep)
open KRep (kv)
open VRep (rv)
theorem Ib (n:Nat) {h:Ae} {w:World} (hh:Dk h w) (r_:Af) {aP:Wx} (aW:rep h r_ aP) (a:An) {cS:Wx} (dN:rep h a cS) {r:(List Int)×Int} (H:Ew n r_ a=some r) :
  Calls Tryz.prog 13 #[.agg aP.toArray,.agg cS.toArray] w (Dq (fun h v=>∃ v0 v1,v=.tuple #[v0,v1]∧(∃ a c,v0=.slice a r.1.length c∧A4 h a c r.1)∧(v1=.int .i64 r.2)) h w):=by
 obtain⟨_,_,rfl,⟨b,m,rfl,ad⟩,⟨_,_,rfl,⟨_,_,rfl,rfl,rfl⟩,⟨_,_,rfl,⟨g,o,rfl,ae⟩,⟨_,_,rfl,⟨i,p,rfl,af⟩,⟨_,_,rfl,rfl,⟨_,_,rfl,rfl,⟨_,_,rfl,rfl,rfl⟩⟩⟩⟩⟩⟩⟩:=aW
 obtain⟨_,_,rfl,⟨d,j,rfl,aa⟩,⟨_,_,rfl,⟨e,k,rfl,ab⟩,⟨f,l,rfl,ac⟩⟩⟩:=dN
 refine enter 17 [.agg (UB b r_ m g o i p),.agg (OL d a j e k f l)] Tryz.func13 rfl rfl rfl rfl fun t hk=>?_
 have hm:=Ah.begin h w hh
 unfold Ew at H
 refine XT (Aa (wl fun K hK=>?_))
 refine wb (.agg (UB b r_ m g o i p)) hk hm fun x a1 bg (an:Kn 17 [(x,0)] [tP 2 0 0,tA 0 (UB b r_ m g o i p),tA 1 (OL d a j e k f l)] a1) az=>hK _ _ ?_
 refine wl fun K hK=>?_
 refine wb (.agg (OL d a j e k f l)) an az fun ag a2 bh (ao:Kn 17 [(x,0),(ag,0)] [tP 3 1 0,tP 2 0 0,tA 0 (UB b r_ m g o i p),tA 1 (OL d a j e k f l)] a2) z=>hK _ _ ?_
 refine Rk 2 2 [tP 3 1 0,tP 2 0 0] ao z fun a7 ap=>?_
 refine wf (XT (XT (Aa (Rk 0 2 [tA 8 (OL d a j e k f l),tA 7 (UB b r_ m g o i p),tP 3 1 0,tP 2 0 0] ap z fun a8 aq=>?_))))
 obtain⟨x9,iL,H⟩:=Av H
 refine wl fun K hK=>?_
 refine wc [.agg (UB b r_ m g o i p),.agg (OL d a j e k f l)] aq z (E3 n z.has r_ ((Ab (Ad ad) (Ab (Ab Ac Ac) (Ab (Ad ae) (Ab (Ad af) (Ab Ac (Ab Ac (Ab Ac Ac))))))):rep h r_ _) a ((Ab (Ad aa) (Ab (Ad ab) (Ad ac))):rep h a _) iL) fun be am bi ak s q=>?_
 replace ad:=ad.mono s
 replace ae:=ae.mono s
 replace af:=af.mono s
 replace aa:=aa.mono s
 replace ab:=ab.mono s
 replace ac:=ac.mono s
 obtain rfl:=ak
 refine⟨.one (.c (Ws x9)),rfl,fun a3 (ar:Kn 17 [(x,0),(ag,0)] [tI 9 x9,tA 8 (OL d a j e k f l),tA 7 (UB b r_ m g o i p),tP 3 1 0,tP 2 0 0] a3)=>hK _ _ ?_⟩
 refine Rk 3 1 [tI 6 x9,tP 3 1 0,tP 2 0 0] ar q fun a9 au=>?_
 refine wf (XT (Aa (Rk 0 2 [tB 11 (x9 != 0),tI 6 x9,tP 3 1 0,tP 2 0 0] au q fun ba ai=>?_)))
 refine wf (wC ((x9 != 0)) ai (fun ah=>?_) (fun ah=>?_))
 ·
  rw [ah,XW] at H
  refine XT (Aa (Rk 0 3 [tI 5 x9,tS 4 none 0 0] ai q fun bb av=>?_))
  refine wf (wp_ret ?_)
  obtain rfl:=XZ H
  exact rt (.tup [.c (Wu none 0 0),.c (Ws x9)]) av q ⟨_,_,rfl,⟨_,_,rfl,A4.nil⟩,rfl⟩
 ·
  rw [ah,XV] at H
  refine wp_skip (XT (Aa (Rk 0 3 [tA 15 (RN b r_ m g o i p d a j e k f l)] ai q fun bc aw=>?_)))
  obtain⟨cH,eV,H⟩:=Av H
  refine wl fun K hK=>?_
  refine wc [.agg (RN b r_ m g o i p d a j e k f l)] aw q (F7 n q.has (AM.mk r_ a) ((Ab (Ab (Ad ad) (Ab (Ab Ac Ac) (Ab (Ad ae) (Ab (Ad af) (Ab Ac (Ab Ac (Ab Ac Ac))))))) (Ab (Ad aa) (Ab (Ad ab) (Ad ac)))):rep am (AM.mk r_ a) _) eV) fun bf a5 bj al a6 aj=>?_
  obtain⟨u,y,rfl,a0⟩:=al
  refine⟨.one (.c (Wu u cH.length y)),rfl,fun a4 (ax:Kn 17 [(x,0),(ag,0)] [tS 16 u cH.length y,tA 15 (RN b r_ m g o i p d a j e k f l)] a4)=>hK _ _ ?_⟩
  refine Rk 4 2 [tI 5 0,tS 4 u cH.length y] ax aj fun bd ay=>?_
  refine wf (wp_ret ?_)
  obtain rfl:=XZ H
  exact rt (.tup [.c (Wu u cH.length y),.c (Ws 0)]) ay aj ⟨_,_,rfl,⟨_,_,rfl,a0⟩,rfl⟩
end Go.Proofs.YtokchpjijlebiaaGreat
