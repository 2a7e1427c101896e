/- Each call computes its plain function. -/
import Derived.Test.YtokchpjijlebiaaGreatProg
import Derived.Test.YtokchpjijlebiaaGreatSQP0
import Derived.Test.YtokchpjijlebiaaGreatSQWS
set_option linter.all false
namespace Go.Proofs.YtokchpjijlebiaaGreat
open Go Go.RowKit
open Rep (rep)
open KRep (kv)
open VRep (rv)
abbrev JU (g:Option Addr) (t_:Ay) (l:Nat):List SC:=[.slice g t_.legs.length l,.int .i64 t_.turn]
abbrev JV (x:AR):List SC:=[.int .i64 x.stop,.int .i64 x.tm,.int .i64 x.turned]
abbrev JW (f:Option Addr) (r_:Af) (m:Nat) (j:Option Addr) (o:Nat) (k:Option Addr) (p:Nat):List SC:=[.slice f r_.legs.length m,.int .i64 r_.turn.lo,.int .i64 r_.turn.hi,.slice j r_.buses.length o,.slice k r_.spares.length p,.int .i64 r_.unit,.int .i64 r_.gap,.int .i64 r_.fr,.int .i64 r_.to_]
set_option maxRecDepth 100000 in
set_option maxHeartbeats 4000000 in
theorem CZ (n:Nat) {h:Ae} {w:World} (hh:CG h w) (r_:Af) {cs_r_:List Value} (hx_r_:rep h r_ cs_r_) (x:AR) {cs_x:List Value} (hx_x:rep h x cs_x) (t_:Ay) {cs_t_:List Value} (hx_t_:rep h t_ cs_t_) {r:AR×Af×Ay} (H:B2 n r_ x t_=some r) :
  Calls Tryz.prog 75 #[.agg cs_r_.toArray,.agg cs_x.toArray,.agg cs_t_.toArray] w (CH (fun h v=>∃ b0 b1 b2:Nat,v=.func (.func 91) #[] #[.pointer (some ⟨b0,0,none⟩),.pointer (some ⟨b1,0,none⟩),.pointer (some ⟨b2,0,none⟩)]∧Cr h b0 r.1∧Cr h b1 r.2.1∧Cr h b2 r.2.2) h w):=by
 obtain⟨_,_,rfl,⟨f,m,rfl,ah⟩,⟨_,_,rfl,⟨_,_,rfl,rfl,rfl⟩,⟨_,_,rfl,⟨j,o,rfl,ai⟩,⟨_,_,rfl,⟨k,p,rfl,aj⟩,⟨_,_,rfl,rfl,⟨_,_,rfl,rfl,⟨_,_,rfl,rfl,rfl⟩⟩⟩⟩⟩⟩⟩:=hx_r_
 obtain⟨_,_,rfl,rfl,⟨_,_,rfl,rfl,rfl⟩⟩:=hx_x
 obtain⟨_,_,rfl,⟨g,l,rfl,ag⟩,rfl⟩:=hx_t_
 refine enter 8 [.agg (JW f r_ m j o k p),.agg (JV x),.agg (JU g t_ l)] Tryz.func75 rfl rfl rfl rfl fun t hk=>?_
 have hm:=Ah.begin h w hh
 unfold B2 at H
 refine XT (Aa (wl fun K hK=>?_))
 refine wb (.agg (JW f r_ m j o k p)) hk hm fun a a0 a9 (aq:Kn 8 [(a,0)] [tP 3 0 0,tA 0 (JW f r_ m j o k p),tA 1 (JV x),tA 2 (JU g t_ l)] a0) ay=>hK _ _ ?_
 refine wl fun K hK=>?_
 refine wb (.agg (JV x)) aq ay fun b a1 ba (ar:Kn 8 [(a,0),(b,0)] [tP 4 1 0,tP 3 0 0,tA 0 (JW f r_ m j o k p),tA 1 (JV x),tA 2 (JU g t_ l)] a1) az=>hK _ _ ?_
 refine wl fun K hK=>?_
 refine wb (.agg (JU g t_ l)) ar az fun d a2 ak (au:Kn 8 [(a,0),(b,0),(d,0)] [tP 5 2 0,tP 4 1 0,tP 3 0 0,tA 0 (JW f r_ m j o k p),tA 1 (JV x),tA 2 (JU g t_ l)] a2) ao=>hK _ _ ?_
 refine Rk 3 1 [tP 5 2 0,tP 4 1 0,tP 3 0 0] au ao fun a7 av=>?_
 refine wf (XT (Aa ?_))
 obtain⟨s,z,al,ae⟩:=ao.settlePlc (i:=1) rfl
 replace ae:Ah ⟨w,h,AB⟩ s [(a,0),(b,0),(d,0)] [⟨JW f r_ m j o k p,some 48⟩,⟨JV x,none⟩,⟨JU g t_ l,some 146⟩] [] ak:=ae
 have ab:Cr s b (x:AR):=Cr.of (e:=[(a,0),(b,0),(d,0)]) (cs:=(JV x)) ((Ab Ac (Ab Ac Ac)):rep s (x:AR) _) rfl al
 have a4:A7 s b [.int .i64 x.stop,.int .i64 x.tm,.int .i64 x.turned]:=A7.of (e:=[(a,0),(b,0),(d,0)]) (cs:=[.int .i64 x.stop,.int .i64 x.tm,.int .i64 x.turned]) rfl al
 obtain⟨u,q,am,af⟩:=ae.settlePlc (i:=0) rfl
 replace ah:=ah.mono (XU z q)
 replace ai:=ai.mono (XU z q)
 replace aj:=aj.mono (XU z q)
 replace af:Ah ⟨w,h,AB⟩ u [(a,0),(b,0),(d,0)] [⟨JW f r_ m j o k p,none⟩,⟨JV x,none⟩,⟨JU g t_ l,some 146⟩] [] ak:=af
 have ac:Cr u a (r_:Af):=Cr.of (e:=[(a,0),(b,0),(d,0)]) (cs:=(JW f r_ m j o k p)) ((Ab (Ad ah) (Ab (Ab Ac Ac) (Ab (Ad ai) (Ab (Ad aj) (Ab Ac (Ab Ac (Ab Ac Ac))))))):rep u (r_:Af) _) rfl am
 have a5:A7 u a [.slice f r_.legs.length m,.int .i64 r_.turn.lo,.int .i64 r_.turn.hi,.slice j r_.buses.length o,.slice k r_.spares.length p,.int .i64 r_.unit,.int .i64 r_.gap,.int .i64 r_.fr,.int .i64 r_.to_]:=A7.of (e:=[(a,0),(b,0),(d,0)]) (cs:=[.slice f r_.legs.length m,.int .i64 r_.turn.lo,.int .i64 r_.turn.hi,.slice j r_.buses.length o,.slice k r_.spares.length p,.int .i64 r_.unit,.int .i64 r_.gap,.int .i64 r_.fr,.int .i64 r_.to_]) rfl am
 obtain⟨y,ad,an,aa⟩:=af.settlePlc (i:=2) rfl
 replace ag:=ag.mono (XU (XU z q) ad)
 replace ab:=ab.mono (XU q ad)
 replace ac:=ac.mono ad
 replace aa:Ah ⟨w,h,AB⟩ y [(a,0),(b,0),(d,0)] [⟨JW f r_ m j o k p,none⟩,⟨JV x,none⟩,⟨JU g t_ l,none⟩] [] ak:=aa
 have ap:Cr y d (t_:Ay):=Cr.of (e:=[(a,0),(b,0),(d,0)]) (cs:=(JU g t_ l)) ((Ab (Ad ag) Ac):rep y (t_:Ay) _) rfl an
 have a6:A7 y d [.slice g t_.legs.length l,.int .i64 t_.turn]:=A7.of (e:=[(a,0),(b,0),(d,0)]) (cs:=[.slice g t_.legs.length l,.int .i64 t_.turn]) rfl an
 refine Gb 0 #[] #[.pointer (some ⟨b,0,none⟩),.pointer (some ⟨a,0,none⟩),.pointer (some ⟨d,0,none⟩)] av rfl rfl (rfl) rfl (by decide) (by rfl) (by rfl) (by rfl) (by rfl) fun a3 (aw:Kn 8 [(a,0),(b,0),(d,0)] [(7,.one (.c (.func (.func 91) #[] #[.pointer (some ⟨b,0,none⟩),.pointer (some ⟨a,0,none⟩),.pointer (some ⟨d,0,none⟩)]))),tP 5 2 0,tP 4 1 0,tP 3 0 0] a3)=>?_
 refine Rk 1 1 [(6,.one (.c (.func (.func 91) #[] #[.pointer (some ⟨b,0,none⟩),.pointer (some ⟨a,0,none⟩),.pointer (some ⟨d,0,none⟩)])))] aw aa fun a8 ax=>?_
 refine wf (wp_ret ?_)
 obtain rfl:=XZ H
 exact rt (.one (.c (.func (.func 91) #[] #[.pointer (some ⟨b,0,none⟩),.pointer (some ⟨a,0,none⟩),.pointer (some ⟨d,0,none⟩)]))) ax aa ⟨_,_,_,rfl,ab,ac,ap⟩
end Go.Proofs.YtokchpjijlebiaaGreat
