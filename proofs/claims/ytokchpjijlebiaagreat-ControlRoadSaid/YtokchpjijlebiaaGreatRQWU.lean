/- Each call computes its plain function. -/
import Derived.Test.YtokchpjijlebiaaGreatProg
import Derived.Test.YtokchpjijlebiaaGreatRQWS
set_option linter.all false
namespace Go.Proofs.YtokchpjijlebiaaGreat
open Go Go.RowKit
set_option maxRecDepth 100000
set_option maxHeartbeats 4000000
open Rep (rep)
open KRep (kv)
open VRep (rv)
theorem DM (n:Nat) {h:Ae} {w:World} (hh:Dk h w) (r_:Af) {aP:Wx} (aW:rep h r_ aP) (x:Bj) {gA:Wx} (jH:rep h x gA) (t_:A8) {cI:Wx} (dF:rep h t_ cI) {r:Bj×Af×A8} (H:BR n r_ x t_=some r) :
  Calls Tryz.prog 75 #[.agg aP.toArray,.agg gA.toArray,.agg cI.toArray] w (Dq (fun h v=>∃ b0 b1 b2:Nat,v=.func (.func 91) #[] #[.pointer (some ⟨b0,0,none⟩),.pointer (some ⟨b1,0,none⟩),.pointer (some ⟨b2,0,none⟩)]∧CY h b0 r.1∧CY h b1 r.2.1∧CY h b2 r.2.2) h w):=by
 obtain⟨_,_,rfl,⟨f,m,rfl,ah⟩,⟨_,_,rfl,⟨_,_,rfl,rfl,rfl⟩,⟨_,_,rfl,⟨j,o,rfl,ai⟩,⟨_,_,rfl,⟨k,p,rfl,aj⟩,⟨_,_,rfl,rfl,⟨_,_,rfl,rfl,⟨_,_,rfl,rfl,rfl⟩⟩⟩⟩⟩⟩⟩:=aW
 obtain⟨_,_,rfl,rfl,⟨_,_,rfl,rfl,rfl⟩⟩:=jH
 obtain⟨_,_,rfl,⟨g,l,rfl,ag⟩,rfl⟩:=dF
 refine enter 8 [.agg (UB f r_ m j o k p),.agg (Eu x),.agg (JN g t_ l)] Tryz.func75 rfl rfl rfl rfl fun t hk=>?_
 have hm:=Ah.begin h w hh
 unfold BR at H
 refine XT (Aa (wl fun K hK=>?_))
 refine wb (.agg (UB f r_ m j o k p)) hk hm fun a a0 a9 (aq:Kn 8 [(a,0)] [tP 3 0 0,tA 0 (UB f r_ m j o k p),tA 1 (Eu x),tA 2 (JN g t_ l)] a0) ay=>hK _ _ ?_
 refine wl fun K hK=>?_
 refine wb (.agg (Eu x)) aq ay fun b a1 ba (ar:Kn 8 [(a,0),(b,0)] [tP 4 1 0,tP 3 0 0,tA 0 (UB f r_ m j o k p),tA 1 (Eu x),tA 2 (JN g t_ l)] a1) az=>hK _ _ ?_
 refine wl fun K hK=>?_
 refine wb (.agg (JN g t_ l)) ar az fun d a2 ak (au:Kn 8 [(a,0),(b,0),(d,0)] [tP 5 2 0,tP 4 1 0,tP 3 0 0,tA 0 (UB f r_ m j o k p),tA 1 (Eu x),tA 2 (JN g t_ l)] a2) ao=>hK _ _ ?_
 refine Rk 3 1 [tP 5 2 0,tP 4 1 0,tP 3 0 0] au ao fun a7 av=>?_
 refine wf (XT (Aa ?_))
 obtain⟨s,z,al,ae⟩:=ao.settlePlc (i:=1) rfl
 replace ae:Ah ⟨w,h,A6⟩ s [(a,0),(b,0),(d,0)] [⟨UB f r_ m j o k p,some 48⟩,⟨Eu x,none⟩,⟨JN g t_ l,some 146⟩] [] ak:=ae
 have ab:CY s b (x:Bj):=CY.of (e:=[(a,0),(b,0),(d,0)]) (cs:=(Eu x)) ((Ab Ac (Ab Ac Ac)):rep s (x:Bj) _) rfl al
 have a4:AL s b [.int .i64 x.stop,.int .i64 x.tm,.int .i64 x.lF]:=AL.of (e:=[(a,0),(b,0),(d,0)]) (cs:=[.int .i64 x.stop,.int .i64 x.tm,.int .i64 x.lF]) rfl al
 obtain⟨u,q,am,af⟩:=ae.settlePlc (i:=0) rfl
 replace ah:=ah.mono (XU z q)
 replace ai:=ai.mono (XU z q)
 replace aj:=aj.mono (XU z q)
 replace af:Ah ⟨w,h,A6⟩ u [(a,0),(b,0),(d,0)] [⟨UB f r_ m j o k p,none⟩,⟨Eu x,none⟩,⟨JN g t_ l,some 146⟩] [] ak:=af
 have ac:CY u a (r_:Af):=CY.of (e:=[(a,0),(b,0),(d,0)]) (cs:=(UB f r_ m j o k p)) ((Ab (Ad ah) (Ab (Ab Ac Ac) (Ab (Ad ai) (Ab (Ad aj) (Ab Ac (Ab Ac (Ab Ac Ac))))))):rep u (r_:Af) _) rfl am
 have a5:AL u a [.slice f r_.lA.length m,.int .i64 r_.turn.lo,.int .i64 r_.turn.hi,.slice j r_.lB.length o,.slice k r_.lC.length p,.int .i64 r_.lI,.int .i64 r_.gap,.int .i64 r_.fr,.int .i64 r_.to_]:=AL.of (e:=[(a,0),(b,0),(d,0)]) (cs:=[.slice f r_.lA.length m,.int .i64 r_.turn.lo,.int .i64 r_.turn.hi,.slice j r_.lB.length o,.slice k r_.lC.length p,.int .i64 r_.lI,.int .i64 r_.gap,.int .i64 r_.fr,.int .i64 r_.to_]) rfl am
 obtain⟨y,ad,an,aa⟩:=af.settlePlc (i:=2) rfl
 replace ag:=ag.mono (XU (XU z q) ad)
 replace ab:=ab.mono (XU q ad)
 replace ac:=ac.mono ad
 replace aa:Ah ⟨w,h,A6⟩ y [(a,0),(b,0),(d,0)] [⟨UB f r_ m j o k p,none⟩,⟨Eu x,none⟩,⟨JN g t_ l,none⟩] [] ak:=aa
 have ap:CY y d (t_:A8):=CY.of (e:=[(a,0),(b,0),(d,0)]) (cs:=(JN g t_ l)) ((Ab (Ad ag) Ac):rep y (t_:A8) _) rfl an
 have a6:AL y d [.slice g t_.lA.length l,.int .i64 t_.turn]:=AL.of (e:=[(a,0),(b,0),(d,0)]) (cs:=[.slice g t_.lA.length l,.int .i64 t_.turn]) rfl an
 refine Hn 0 #[] #[.pointer (some ⟨b,0,none⟩),.pointer (some ⟨a,0,none⟩),.pointer (some ⟨d,0,none⟩)] av rfl rfl (rfl) rfl (by decide) (by rfl) (by rfl) (by rfl) (by rfl) fun a3 (aw:Kn 8 [(a,0),(b,0),(d,0)] [(7,.one (.c (.func (.func 91) #[] #[.pointer (some ⟨b,0,none⟩),.pointer (some ⟨a,0,none⟩),.pointer (some ⟨d,0,none⟩)]))),tP 5 2 0,tP 4 1 0,tP 3 0 0] a3)=>?_
 refine Rk 1 1 [(6,.one (.c (.func (.func 91) #[] #[.pointer (some ⟨b,0,none⟩),.pointer (some ⟨a,0,none⟩),.pointer (some ⟨d,0,none⟩)])))] aw aa fun a8 ax=>?_
 refine wf (wp_ret ?_)
 obtain rfl:=XZ H
 exact rt (.one (.c (.func (.func 91) #[] #[.pointer (some ⟨b,0,none⟩),.pointer (some ⟨a,0,none⟩),.pointer (some ⟨d,0,none⟩)]))) ax aa ⟨_,_,_,rfl,ab,ac,ap⟩
end Go.Proofs.YtokchpjijlebiaaGreat
