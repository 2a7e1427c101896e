/- Each call computes its plain function. -/
import Derived.Test.YtokchpjijlebiaaProg
import Derived.Test.YtokchpjijlebiaaBGP0
import Derived.Test.YtokchpjijlebiaaBGWS
set_option linter.all false
namespace Go.Proofs.Ytokchpjijlebiaa
open Go Go.RowKit
open Rep (rep)
open KRep (kv)
open VRep (rv)
abbrev KA (o:Option Addr) (t_:A5) (p:Nat):List SC:=[.slice o t_.legs.length p,.int .i64 t_.turn]
abbrev JQ (x:Bi):List SC:=[.int .i64 x.stop,.int .i64 x.tm,.int .i64 x.turned]
abbrev IU (f:Option Addr) (r_:Af) (k:Nat) (g:Option Addr) (l:Nat) (j:Option Addr) (m:Nat):List SC:=[.slice f r_.legs.length k,.int .i64 r_.turn.lo,.int .i64 r_.turn.hi,.slice g r_.buses.length l,.slice j r_.spares.length m,.int .i64 r_.unit,.int .i64 r_.gap,.int .i64 r_.fr,.int .i64 r_.to_]
set_option maxRecDepth 100000 in
set_option maxHeartbeats 4000000 in
theorem Fi (n:Nat) {h:Ae} {w:World} (hh:Dn h w) (r_:Af) {cs_r_:List Value} (hx_r_:rep h r_ cs_r_) (x:Bi) {cs_x:List Value} (hx_x:rep h x cs_x) (t_:A5) {cs_t_:List Value} (hx_t_:rep h t_ cs_t_) {r:Bi×Af×A5} (H:C2 n r_ x t_=some r) :
  Calls Try.prog 94 #[.agg cs_r_.toArray,.agg cs_x.toArray,.agg cs_t_.toArray] w (Dp (fun h v=>∃ b0 b1 b2:Nat,v=.func (.func 106) #[] #[.pointer (some ⟨b0,0,none⟩),.pointer (some ⟨b1,0,none⟩),.pointer (some ⟨b2,0,none⟩)]∧CO h b0 r.1∧CO h b1 r.2.1∧CO h b2 r.2.2) h w):=by
 obtain⟨_,_,rfl,⟨f,k,rfl,ai⟩,⟨_,_,rfl,⟨_,_,rfl,rfl,rfl⟩,⟨_,_,rfl,⟨g,l,rfl,aj⟩,⟨_,_,rfl,⟨j,m,rfl,ak⟩,⟨_,_,rfl,rfl,⟨_,_,rfl,rfl,⟨_,_,rfl,rfl,rfl⟩⟩⟩⟩⟩⟩⟩:=hx_r_
 obtain⟨_,_,rfl,rfl,⟨_,_,rfl,rfl,rfl⟩⟩:=hx_x
 obtain⟨_,_,rfl,⟨o,p,rfl,ah⟩,rfl⟩:=hx_t_
 refine enter 8 [.agg (IU f r_ k g l j m),.agg (JQ x),.agg (KA o t_ p)] Try.func94 rfl rfl rfl rfl fun t hk=>?_
 have hm:=Ah.begin h w hh
 unfold C2 at H
 refine XT (Aa (wl fun K hK=>?_))
 refine wb (.agg (IU f r_ k g l j m)) hk hm fun a a0 a4 (aq:Kn 8 [(a,0)] [tP 3 0 0,tA 0 (IU f r_ k g l j m),tA 1 (JQ x),tA 2 (KA o t_ p)] a0) (ay:Ah ⟨w,h,Aj⟩ h [(a,0)] [⟨IU f r_ k g l j m,some 43⟩] [] a4)=>hK _ _ ?_
 refine wl fun K hK=>?_
 refine wb (.agg (JQ x)) aq ay fun b a1 a5 (ar:Kn 8 [(a,0),(b,0)] [tP 4 1 0,tP 3 0 0,tA 0 (IU f r_ k g l j m),tA 1 (JQ x),tA 2 (KA o t_ p)] a1) (az:Ah ⟨w,h,Aj⟩ h [(a,0),(b,0)] [⟨IU f r_ k g l j m,some 43⟩,⟨JQ x,some 153⟩] [] a5)=>hK _ _ ?_
 refine wl fun K hK=>?_
 refine wb (.agg (KA o t_ p)) ar az fun d a2 ab (au:Kn 8 [(a,0),(b,0),(d,0)] [tP 5 2 0,tP 4 1 0,tP 3 0 0,tA 0 (IU f r_ k g l j m),tA 1 (JQ x),tA 2 (KA o t_ p)] a2) (ao:Ah ⟨w,h,Aj⟩ h [(a,0),(b,0),(d,0)] [⟨IU f r_ k g l j m,some 43⟩,⟨JQ x,some 153⟩,⟨KA o t_ p,some 158⟩] [] ab)=>hK _ _ ?_
 refine Rk 3 1 [tP 5 2 0,tP 4 1 0,tP 3 0 0] au ao fun a9 av=>?_
 refine wf (XT (Aa ?_))
 obtain⟨s,z,al,af⟩:=ao.settlePlc (i:=1) rfl
 replace af:Ah ⟨w,h,Aj⟩ s [(a,0),(b,0),(d,0)] [⟨IU f r_ k g l j m,some 43⟩,⟨JQ x,none⟩,⟨KA o t_ p,some 158⟩] [] ab:=af
 have ac:CO s b (x:Bi):=CO.of (e:=[(a,0),(b,0),(d,0)]) (cs:=(JQ x)) ((Ab Ac (Ab Ac Ac)):rep s (x:Bi) _) rfl al
 have a6:AD s b [.int .i64 x.stop,.int .i64 x.tm,.int .i64 x.turned]:=AD.of (e:=[(a,0),(b,0),(d,0)]) (cs:=[.int .i64 x.stop,.int .i64 x.tm,.int .i64 x.turned]) rfl al
 obtain⟨u,q,am,ag⟩:=af.settlePlc (i:=0) rfl
 replace ai:=ai.mono (XU z q)
 replace aj:=aj.mono (XU z q)
 replace ak:=ak.mono (XU z q)
 replace ag:Ah ⟨w,h,Aj⟩ u [(a,0),(b,0),(d,0)] [⟨IU f r_ k g l j m,none⟩,⟨JQ x,none⟩,⟨KA o t_ p,some 158⟩] [] ab:=ag
 have ad:CO u a (r_:Af):=CO.of (e:=[(a,0),(b,0),(d,0)]) (cs:=(IU f r_ k g l j m)) ((Ab (Ad ai) (Ab (Ab Ac Ac) (Ab (Ad aj) (Ab (Ad ak) (Ab Ac (Ab Ac (Ab Ac Ac))))))):rep u (r_:Af) _) rfl am
 have a7:AD u a [.slice f r_.legs.length k,.int .i64 r_.turn.lo,.int .i64 r_.turn.hi,.slice g r_.buses.length l,.slice j r_.spares.length m,.int .i64 r_.unit,.int .i64 r_.gap,.int .i64 r_.fr,.int .i64 r_.to_]:=AD.of (e:=[(a,0),(b,0),(d,0)]) (cs:=[.slice f r_.legs.length k,.int .i64 r_.turn.lo,.int .i64 r_.turn.hi,.slice g r_.buses.length l,.slice j r_.spares.length m,.int .i64 r_.unit,.int .i64 r_.gap,.int .i64 r_.fr,.int .i64 r_.to_]) rfl am
 obtain⟨y,ae,an,aa⟩:=ag.settlePlc (i:=2) rfl
 replace ah:=ah.mono (XU (XU z q) ae)
 replace ac:=ac.mono (XU q ae)
 replace ad:=ad.mono ae
 replace aa:Ah ⟨w,h,Aj⟩ y [(a,0),(b,0),(d,0)] [⟨IU f r_ k g l j m,none⟩,⟨JQ x,none⟩,⟨KA o t_ p,none⟩] [] ab:=aa
 have ap:CO y d (t_:A5):=CO.of (e:=[(a,0),(b,0),(d,0)]) (cs:=(KA o t_ p)) ((Ab (Ad ah) Ac):rep y (t_:A5) _) rfl an
 have a8:AD y d [.slice o t_.legs.length p,.int .i64 t_.turn]:=AD.of (e:=[(a,0),(b,0),(d,0)]) (cs:=[.slice o t_.legs.length p,.int .i64 t_.turn]) rfl an
 refine H6 0 #[] #[.pointer (some ⟨b,0,none⟩),.pointer (some ⟨a,0,none⟩),.pointer (some ⟨d,0,none⟩)] av rfl rfl (rfl) rfl (by decide) (by rfl) (by rfl) (by rfl) (by rfl) fun a3 (aw:Kn 8 [(a,0),(b,0),(d,0)] [(7,.one (.c (.func (.func 106) #[] #[.pointer (some ⟨b,0,none⟩),.pointer (some ⟨a,0,none⟩),.pointer (some ⟨d,0,none⟩)]))),tP 5 2 0,tP 4 1 0,tP 3 0 0] a3)=>?_
 refine Rk 1 1 [(6,.one (.c (.func (.func 106) #[] #[.pointer (some ⟨b,0,none⟩),.pointer (some ⟨a,0,none⟩),.pointer (some ⟨d,0,none⟩)])))] aw aa fun ba ax=>?_
 refine wf (wp_ret ?_)
 obtain rfl:=XZ H
 exact rt (.one (.c (.func (.func 106) #[] #[.pointer (some ⟨b,0,none⟩),.pointer (some ⟨a,0,none⟩),.pointer (some ⟨d,0,none⟩)]))) ax aa ⟨_,_,_,rfl,ac,ad,ap⟩
end Go.Proofs.Ytokchpjijlebiaa
