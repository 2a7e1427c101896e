/- Each call computes its plain function. -/
import Derived.Test.YtokchpjijlebiaaProg
import Derived.Test.YtokchpjijlebiaaNQP0
import Derived.Test.YtokchpjijlebiaaNQWS
set_option linter.all false
namespace Go.Proofs.Ytokchpjijlebiaa
open Go Go.RowKit
open Rep (rep)
open KRep (kv)
open VRep (rv)
abbrev IQ (g:Option Addr) (t_:A9) (l:Nat):List SC:=[.slice g t_.legs.length l,.int .i64 t_.turn]
abbrev IS (x:Bm):List SC:=[.int .i64 x.stop,.int .i64 x.tm,.int .i64 x.turned]
abbrev IT (f:Option Addr) (r_:Ag) (m:Nat) (j:Option Addr) (o:Nat) (k:Option Addr) (p:Nat):List SC:=[.slice f r_.legs.length m,.int .i64 r_.turn.lo,.int .i64 r_.turn.hi,.slice j r_.buses.length o,.slice k r_.spares.length p,.int .i64 r_.unit,.int .i64 r_.gap,.int .i64 r_.fr,.int .i64 r_.to_]
set_option maxRecDepth 100000 in
set_option maxHeartbeats 4000000 in
theorem Dg (n:Nat) {h:Ad} {w:World} (hh:Dv h w) (r_:Ag) {cs_r_:List Value} (hx_r_:rep h r_ cs_r_) (x:Bm) {cs_x:List Value} (hx_x:rep h x cs_x) (t_:A9) {cs_t_:List Value} (hx_t_:rep h t_ cs_t_) {r:Bm×Ag×A9} (H:Ci n r_ x t_=some r) :
  Calls Try.prog 94 #[.agg cs_r_.toArray,.agg cs_x.toArray,.agg cs_t_.toArray] w (D6 (fun h v=>∃ b0 b1 b2:Nat,v=.func (.func 106) #[] #[.pointer (some ⟨b0,0,none⟩),.pointer (some ⟨b1,0,none⟩),.pointer (some ⟨b2,0,none⟩)]∧Cv h b0 r.1∧Cv h b1 r.2.1∧Cv h b2 r.2.2) h w):=by
 obtain⟨_,_,rfl,⟨f,m,rfl,ah⟩,⟨_,_,rfl,⟨_,_,rfl,rfl,rfl⟩,⟨_,_,rfl,⟨j,o,rfl,ai⟩,⟨_,_,rfl,⟨k,p,rfl,aj⟩,⟨_,_,rfl,rfl,⟨_,_,rfl,rfl,⟨_,_,rfl,rfl,rfl⟩⟩⟩⟩⟩⟩⟩:=hx_r_
 obtain⟨_,_,rfl,rfl,⟨_,_,rfl,rfl,rfl⟩⟩:=hx_x
 obtain⟨_,_,rfl,⟨g,l,rfl,ag⟩,rfl⟩:=hx_t_
 refine enter 8 [.agg (IT f r_ m j o k p),.agg (IS x),.agg (IQ g t_ l)] Try.func94 rfl rfl rfl rfl fun t hk=>?_
 have hm:=Ah.begin h w hh
 unfold Ci at H
 refine QT (Ab (wl fun K hK=>?_))
 refine wb (.agg (IT f r_ m j o k p)) hk hm fun a a0 a9 (aq:Kn 8 [(a,0)] [tP 3 0 0,tA 0 (IT f r_ m j o k p),tA 1 (IS x),tA 2 (IQ g t_ l)] a0) ay=>hK _ _ ?_
 refine wl fun K hK=>?_
 refine wb (.agg (IS x)) aq ay fun b a1 ba (ar:Kn 8 [(a,0),(b,0)] [tP 4 1 0,tP 3 0 0,tA 0 (IT f r_ m j o k p),tA 1 (IS x),tA 2 (IQ g t_ l)] a1) az=>hK _ _ ?_
 refine wl fun K hK=>?_
 refine wb (.agg (IQ g t_ l)) ar az fun d a2 ak (au:Kn 8 [(a,0),(b,0),(d,0)] [tP 5 2 0,tP 4 1 0,tP 3 0 0,tA 0 (IT f r_ m j o k p),tA 1 (IS x),tA 2 (IQ g t_ l)] a2) ao=>hK _ _ ?_
 refine Rk 3 1 [tP 5 2 0,tP 4 1 0,tP 3 0 0] au ao fun a7 av=>?_
 refine wf (QT (Ab ?_))
 obtain⟨s,z,al,ae⟩:=ao.settlePlc (i:=1) rfl
 replace ae:Ah ⟨w,h,Az⟩ s [(a,0),(b,0),(d,0)] [⟨IT f r_ m j o k p,some 43⟩,⟨IS x,none⟩,⟨IQ g t_ l,some 158⟩] [] ak:=ae
 have ab:Cv s b (x:Bm):=Cv.of (e:=[(a,0),(b,0),(d,0)]) (cs:=(IS x)) ((Aa Ac (Aa Ac Ac)):rep s (x:Bm) _) rfl al
 have a4:A8 s b [.int .i64 x.stop,.int .i64 x.tm,.int .i64 x.turned]:=A8.of (e:=[(a,0),(b,0),(d,0)]) (cs:=[.int .i64 x.stop,.int .i64 x.tm,.int .i64 x.turned]) rfl al
 obtain⟨u,q,am,af⟩:=ae.settlePlc (i:=0) rfl
 replace ah:=ah.mono (QU z q)
 replace ai:=ai.mono (QU z q)
 replace aj:=aj.mono (QU z q)
 replace af:Ah ⟨w,h,Az⟩ u [(a,0),(b,0),(d,0)] [⟨IT f r_ m j o k p,none⟩,⟨IS x,none⟩,⟨IQ g t_ l,some 158⟩] [] ak:=af
 have ac:Cv u a (r_:Ag):=Cv.of (e:=[(a,0),(b,0),(d,0)]) (cs:=(IT f r_ m j o k p)) ((Aa (Ae ah) (Aa (Aa Ac Ac) (Aa (Ae ai) (Aa (Ae aj) (Aa Ac (Aa Ac (Aa Ac Ac))))))):rep u (r_:Ag) _) rfl am
 have a5:A8 u a [.slice f r_.legs.length m,.int .i64 r_.turn.lo,.int .i64 r_.turn.hi,.slice j r_.buses.length o,.slice k r_.spares.length p,.int .i64 r_.unit,.int .i64 r_.gap,.int .i64 r_.fr,.int .i64 r_.to_]:=A8.of (e:=[(a,0),(b,0),(d,0)]) (cs:=[.slice f r_.legs.length m,.int .i64 r_.turn.lo,.int .i64 r_.turn.hi,.slice j r_.buses.length o,.slice k r_.spares.length p,.int .i64 r_.unit,.int .i64 r_.gap,.int .i64 r_.fr,.int .i64 r_.to_]) rfl am
 obtain⟨y,ad,an,aa⟩:=af.settlePlc (i:=2) rfl
 replace ag:=ag.mono (QU (QU z q) ad)
 replace ab:=ab.mono (QU q ad)
 replace ac:=ac.mono ad
 replace aa:Ah ⟨w,h,Az⟩ y [(a,0),(b,0),(d,0)] [⟨IT f r_ m j o k p,none⟩,⟨IS x,none⟩,⟨IQ g t_ l,none⟩] [] ak:=aa
 have ap:Cv y d (t_:A9):=Cv.of (e:=[(a,0),(b,0),(d,0)]) (cs:=(IQ g t_ l)) ((Aa (Ae ag) Ac):rep y (t_:A9) _) rfl an
 have a6:A8 y d [.slice g t_.legs.length l,.int .i64 t_.turn]:=A8.of (e:=[(a,0),(b,0),(d,0)]) (cs:=[.slice g t_.legs.length l,.int .i64 t_.turn]) rfl an
 refine Fw 0 #[] #[.pointer (some ⟨b,0,none⟩),.pointer (some ⟨a,0,none⟩),.pointer (some ⟨d,0,none⟩)] av rfl rfl (rfl) rfl (by decide) (by rfl) (by rfl) (by rfl) (by rfl) fun a3 (aw:Kn 8 [(a,0),(b,0),(d,0)] [(7,.one (.c (.func (.func 106) #[] #[.pointer (some ⟨b,0,none⟩),.pointer (some ⟨a,0,none⟩),.pointer (some ⟨d,0,none⟩)]))),tP 5 2 0,tP 4 1 0,tP 3 0 0] a3)=>?_
 refine Rk 1 1 [(6,.one (.c (.func (.func 106) #[] #[.pointer (some ⟨b,0,none⟩),.pointer (some ⟨a,0,none⟩),.pointer (some ⟨d,0,none⟩)])))] aw aa fun a8 ax=>?_
 refine wf (wp_ret ?_)
 obtain rfl:=QZ H
 exact rt (.one (.c (.func (.func 106) #[] #[.pointer (some ⟨b,0,none⟩),.pointer (some ⟨a,0,none⟩),.pointer (some ⟨d,0,none⟩)]))) ax aa ⟨_,_,_,rfl,ab,ac,ap⟩
end Go.Proofs.Ytokchpjijlebiaa
