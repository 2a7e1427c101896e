/- Each call computes its plain function. -/
import Derived.Test.YtokchpjijlebiaaGreatProg
import Derived.Test.YtokchpjijlebiaaGreatRQWQ
import Derived.Test.YtokchpjijlebiaaGreatRQWX
import Derived.Test.YtokchpjijlebiaaGreatRQWY
set_option linter.all false
namespace Go.Proofs.YtokchpjijlebiaaGreat
open Go Go.RowKit
set_option maxRecDepth 100000
set_option maxHeartbeats 4000000
open Rep (rep)
open KRep (kv)
open VRep (rv)
abbrev Me:TM:=[tP 7 5 0,tP 6 4 0,tP 2 0 0,tP 3 1 0,tP 4 3 0,tP 5 2 0]
abbrev Qo:TM:=[tP 2 0 0,tP 3 1 0,tP 5 2 0]
abbrev KE:TM:=(tB 9 true)::Me
theorem Mf (n:Nat) {F:Fr} {h:Ae} {w:World} {aQ aI aU aX:Nat} (d:Ar) {eF:Wx} (fU:rep h d eF) (c:Bn) {gN:Wx} (jO:rep h c gN) (found:Bool) (least:Bn) (best:Ar) (r_:Af) (cM:CY h aU r_) (hm:Ah F h [(aQ,0),(aI,0),(aX,0)] [⟨[.bool found],some 4⟩,⟨[Ws least.lJ,Ws least.sum],some 107⟩,⟨[Ws best.lD.a0,Ws best.lD.a1,Ws best.lD.a2,Ws best.lD.a3,Ws best.lE.a0,Ws best.lE.a1,Ws best.lE.a2,Ws best.lE.a3,.bool best.lC.a0,.bool best.lC.a1],some 105⟩] [] w) {r:Bool×Bn×Ar} (H:Cw n d c found least best r_=some r) :
  Calls Tryz.prog 48 #[.agg eF.toArray,.agg gN.toArray,.pointer (some ⟨aQ,0,none⟩),.pointer (some ⟨aI,0,none⟩),.pointer (some ⟨aU,0,none⟩),.pointer (some ⟨aX,0,none⟩)] w (S6 fun v w'=>∃ (h':Ae),Ae.le h h'∧(v=.tuple #[])∧Ah F h' [(aQ,0),(aI,0),(aX,0)] [⟨[.bool r.1],some 4⟩,⟨[.int .i64 r.2.1.lJ,.int .i64 r.2.1.sum],some 107⟩,⟨[.int .i64 r.2.2.lD.a0,.int .i64 r.2.2.lD.a1,.int .i64 r.2.2.lD.a2,.int .i64 r.2.2.lD.a3,.int .i64 r.2.2.lE.a0,.int .i64 r.2.2.lE.a1,.int .i64 r.2.2.lE.a2,.int .i64 r.2.2.lE.a3,.bool r.2.2.lC.a0,.bool r.2.2.lC.a1],some 105⟩] [] w'):=by
 obtain⟨_,_,rfl,⟨_,_,rfl,rfl,⟨_,_,rfl,rfl,⟨_,_,rfl,rfl,rfl⟩⟩⟩,⟨_,_,rfl,⟨_,_,rfl,rfl,⟨_,_,rfl,rfl,⟨_,_,rfl,rfl,rfl⟩⟩⟩,⟨_,_,rfl,rfl,rfl⟩⟩⟩:=fU
 obtain⟨_,_,rfl,rfl,rfl⟩:=jO
 obtain⟨_,aW,iF⟩:=id cM
 obtain⟨_,_,rfl,⟨g,m,rfl,ah⟩,⟨_,_,rfl,⟨_,_,rfl,rfl,rfl⟩,⟨_,_,rfl,⟨k,p,rfl,ai⟩,⟨_,_,rfl,⟨l,q,rfl,aj⟩,⟨_,_,rfl,rfl,⟨_,_,rfl,rfl,⟨_,_,rfl,rfl,rfl⟩⟩⟩⟩⟩⟩⟩:=aW
 refine HL (e:=[(aQ,0),(aI,0),(aX,0),(aU,0)]) 42 [.agg (DA d),.agg (RM c),.c (.ptr 0 0),.c (.ptr 1 0),.c (.ptr 3 0),.c (.ptr 2 0)] Tryz.func48 rfl rfl rfl rfl fun t hk=>?_
 replace hm:=hm.addPlc (o:=0) (cs:=(Wp r_ g m k p l q)) (fun j c hj=>by rw [Xa]; exact iF j _ (Ak hj)) rfl (by kernel_rfl) (by kernel_rfl)
 replace hm:Ah F h [(aQ,0),(aI,0),(aX,0),(aU,0)] [⟨[.bool found],some 4⟩,⟨RM least,some 107⟩,⟨DA best,some 105⟩,⟨UB g r_ m k p l q,none⟩] [] w:=hm
 unfold Cw at H
 refine XT (Aa (wl fun K hK=>?_))
 refine wb (.agg (DA d)) hk hm fun a b9 cl (bd:Kn 42 [(aQ,0),(aI,0),(aX,0),(aU,0),(a,0)] [tP 6 4 0,tA 0 (DA d),tA 1 (RM c),tP 2 0 0,tP 3 1 0,tP 4 3 0,tP 5 2 0] b9) b4=>hK _ _ ?_
 refine wl fun K hK=>?_
 refine wb (.agg (RM c)) bd b4 fun f a6 cm (be:Kn 42 (DW aQ aI aX aU a f) [tP 7 5 0,tP 6 4 0,tA 0 (DA d),tA 1 (RM c),tP 2 0 0,tP 3 1 0,tP 4 3 0,tP 5 2 0] a6) u=>hK _ _ ?_
 have bf:Kn 42 (DW aQ aI aX aU a f) Me a6:=be.kp
 refine wf (XT (XT ?_))
 obtain⟨a5,x,H⟩:=Av H
 refine A0 (fun a' w'=>∃ (aq:Array Value)(aa:Ae),a' = ⟨aq,[]⟩∧Kn 42 (DW aQ aI aX aU a f) [tP 7 5 0,tP 6 4 0,tP 2 0 0,tP 3 1 0,tP 4 3 0,tP 5 2 0,tB 34 a5] aq∧Ah F aa (DW aQ aI aX aU a f) [⟨[.bool found],some 4⟩,⟨RM least,some 107⟩,⟨DA best,some 105⟩,⟨UB g r_ m k p l q,none⟩,⟨DA d,some 105⟩,⟨RM c,some 107⟩] [] w'∧Ae.le h aa) ?_ ?_
 ·
  refine Aa (Rk 0 2 ((tB 9 found)::Me) bf u fun a7 au=>?_)
  rcases Xb (found) with ac | ac
  ·
   rw [ac,XW] at x
   have bg:Kn 42 (DW aQ aI aX aU a f) KE a7:=(au.setB 9 true (by rfl) ac).kp
   refine Rk 2 4 ((tB 13 ((c.lJ == least.lJ) && ((c.sum == least.sum) && true)))::KE) bg u fun a8 av=>?_
   rcases Xb (((c.lJ == least.lJ) && ((c.sum == least.sum) && true))) with ad | ad
   ·
    rw [ad,XW] at x
    have bh:Kn 42 (DW aQ aI aX aU a f) ((tB 13 true)::KE) a8:=(av.setB 13 true (by rfl) ad).kp
    refine Rk 6 21 ((tB 34 true)::Me) bh u fun cd bi=>?_
    refine wf ?_
    obtain rfl:=XZ x
    exact XY _ ⟨_,rfl,bi.kp,u,Ae.le_refl _⟩
   ·
    rw [ad,XV] at x
    have bj:Kn 42 (DW aQ aI aX aU a f) ((tB 13 false)::KE) a8:=(av.setB 13 false (by rfl) ad).kp
    refine Rk 6 7 ((tB 20 (decide (c.lJ>least.lJ)))::KE) bj u fun a9 aw=>?_
    rcases Xb (decide (c.lJ>least.lJ)) with ae | ae
    ·
     rw [ae,XW] at x
     have bk:Kn 42 (DW aQ aI aX aU a f) ((tB 20 true)::KE) a9:=(aw.setB 20 true (by rfl) ae).kp
     refine Rk 13 14 ((tB 34 true)::Me) bk u fun ce bl=>?_
     refine wf ?_
     obtain rfl:=XZ x
     exact XY _ ⟨_,rfl,bl.kp,u,Ae.le_refl _⟩
    ·
     rw [ae,XV] at x
     have bm:Kn 42 (DW aQ aI aX aU a f) ((tB 20 false)::KE) a9:=(aw.setB 20 false (by rfl) ae).kp
     refine Rk 13 6 ((tB 26 (c.lJ == least.lJ))::(tB 20 false)::KE) bm u fun ba ax=>?_
     rcases Xb ((c.lJ == least.lJ)) with af | af
     ·
      rw [af,XW] at x
      have bn:Kn 42 (DW aQ aI aX aU a f) ((tB 26 true)::(tB 20 false)::KE) ba:=(ax.setB 26 true (by rfl) af).kp
      refine Rk 19 8 ((tB 34 (decide (c.sum>least.sum)))::Me) bn u fun cf bo=>?_
      refine wf ?_
      obtain rfl:=XZ x
      exact XY _ ⟨_,rfl,bo.kp,u,Ae.le_refl _⟩
     ·
      rw [af,XV] at x
      have bp:Kn 42 (DW aQ aI aX aU a f) ((tB 26 false)::(tB 20 false)::KE) ba:=(ax.setB 26 false (by rfl) af).kp
      refine Rk 19 8 ((tB 34 false)::Me) bp u fun cg bq=>?_
      refine wf ?_
      obtain rfl:=XZ x
      exact XY _ ⟨_,rfl,bq.kp,u,Ae.le_refl _⟩
  ·
   rw [ac,XV] at x
   have br:Kn 42 (DW aQ aI aX aU a f) ((tB 9 false)::Me) a7:=(au.setB 9 false (by rfl) ac).kp
   refine Rk 2 25 ((tB 34 false)::Me) br u fun ch bs=>?_
   refine wf ?_
   obtain rfl:=XZ x
   exact XY _ ⟨_,rfl,bs.kp,u,Ae.le_refl _⟩
 ·
  rintro _ cn ⟨aq,aa,rfl,ap,ag,z⟩
  replace ah:=ah.mono z
  replace ai:=ai.mono z
  replace aj:=aj.mono z
  replace cM:=cM.mono z
  refine wC (a5) ap (fun an=>?_) (fun an=>?_)
  ·
   rw [an,XW] at H
   refine wp_ret ?_
   obtain rfl:=XZ H
   exact Vp (.tup []) ap ag (by kernel_rfl) ⟨aa,z,rfl,(ag.cutRw 0).cutPl 3 (by kernel_rfl)⟩
  ·
   rw [an,XV] at H
   refine wp_skip (XT (Aa (Rk 0 4 ((tI 38 r_.gap)::(tA 36 (DA d))::(tA 35 (UB g r_ m k p l q))::(tP 7 5 0)::(tP 6 4 0)::Qo) ap ag fun ci bt=>?_)))
   obtain⟨iN,ex39,H⟩:=Av H
   refine wl fun K hK=>?_
   refine wc [.agg (UB g r_ m k p l q),.agg (DA d),.c (Ws r_.gap)] bt ag (IL n ag.has r_ ((Ab (Ad ah) (Ab (Ab Ac Ac) (Ab (Ad ai) (Ab (Ad aj) (Ab Ac (Ab Ac (Ab Ac Ac))))))):rep aa r_ _) d ((Ab (Ab Ac (Ab Ac (Ab Ac Ac))) (Ab (Ab Ac (Ab Ac (Ab Ac Ac))) (Ab B3 B3))):rep aa d _) r_.gap ex39) fun ck ar co bc ab y=>?_
   replace ah:=ah.mono ab
   replace ai:=ai.mono ab
   replace aj:=aj.mono ab
   replace cM:=cM.mono ab
   obtain rfl:=bc
   refine⟨.one (.c (.bool iN)),rfl,fun bb (bu:Kn 42 (DW aQ aI aX aU a f) ((tB 39 iN)::(tI 38 r_.gap)::(tA 36 (DA d))::(tA 35 (UB g r_ m k p l q))::(tP 7 5 0)::(tP 6 4 0)::Qo) bb)=>hK _ _ ?_⟩
   have ay:Kn 42 (DW aQ aI aX aU a f) ((tB 39 iN)::(tP 7 5 0)::(tP 6 4 0)::Qo) bb:=bu.kp
   refine wf (wC (iN) ay (fun ao=>?_) (fun ao=>?_))
   ·
    rw [ao,XW] at H
    refine Am (by kernel_rfl) ?_
    replace y:=y.drew
    refine Ao [1] (DW aQ aI aX aU a f) [⟨[.bool found],some 4⟩,⟨RM least,some 107⟩,⟨[],some 105⟩,⟨UB g r_ m k p l q,none⟩,⟨DA d,some 105⟩,⟨RM c,some 107⟩] ?_
    refine IX [0] [0] [40,7,2,3,5] ((tA 40 (DA d))::(tP 7 5 0)::Qo) (fun _ _ _ _ _ h=>h) ay (Ay.forget [2] y.plOk) (by kernel_rfl) (by rfl) (by kernel_rfl) fun cj az=>?_
    refine Bc (fun W=>∀ a' w',(∃ (am:Array Value)(ak:Ae),a' = ⟨am,[]⟩∧Kn 42 (DW aQ aI aX aU a f) [tA 41 (RM c),tP 2 0 0,tP 3 1 0] am∧Ah F ak (DW aQ aI aX aU a f) [⟨[.bool found],some 4⟩,⟨RM least,some 107⟩,⟨DA d,some 105⟩,⟨UB g r_ m k p l q,none⟩,⟨DA d,some 105⟩,⟨RM c,some 107⟩] [] w'∧Ae.le ar ak)→W (DW aQ aI aX aU a f) [⟨[.bool found],some 4⟩,⟨RM least,some 107⟩,⟨[],some 105⟩,⟨UB g r_ m k p l q,none⟩,⟨DA d,some 105⟩,⟨RM c,some 107⟩] [1,2,0] a' w') ?_ (fun a4=>?_)
    ·
     rintro _ cp ⟨am,ak,rfl,bv,b5,b3⟩
     refine Cq 3 rfl (by kernel_rfl) (by decide) (rfl) (by kernel_rfl) fun K hK=>?_
     refine EZ 1 0 (.agg (RM c)) (RM c) bv b5 fun cq bw b6=>hK _ _ ?_
     refine Ao [1] (DW aQ aI aX aU a f) [⟨[.bool found],some 4⟩,⟨RM c,some 107⟩,⟨[],some 105⟩,⟨UB g r_ m k p l q,none⟩,⟨DA d,some 105⟩,⟨RM c,some 107⟩] ?_
     refine Cq 4 rfl (by kernel_rfl) (by decide) (rfl) (by kernel_rfl) fun K hK=>?_
     refine EZ 0 0 (.c (.bool true)) [.bool true] bw b6 fun cr bx b7=>hK _ _ ?_
     refine Ao [1] (DW aQ aI aX aU a f) [⟨[.bool true],some 4⟩,⟨RM c,some 107⟩,⟨[],some 105⟩,⟨UB g r_ m k p l q,none⟩,⟨DA d,some 105⟩,⟨RM c,some 107⟩] ?_
     have cc:Kn 42 (DW aQ aI aX aU a f) [] am:=bx.kp
     refine A2 (by kernel_rfl) ?_
     obtain rfl:=XZ H
     exact GS rfl ⟨ak,XU z (XU ab b3),rfl,(b7.cutRw 0).cutPl 3 (by kernel_rfl)⟩
    refine D0 1 2 rfl rfl (by kernel_rfl) (by decide) (rfl) (rfl) (fun K hK=>?_) (fun K hK=>?_)
    ·
     refine Bk az (Ay.forget [2] y.plOk) rfl (by decide) (by kernel_rfl) fun ca (bz:Kn 42 (DW aQ aI aX aU a f) ((tA 41 (RM c))::(tA 40 (DA d))::(tP 7 5 0)::Qo) ca)=>hK _ _ (Ay.forget [2] y.plOk) ?_
     refine Cq 2 rfl (by kernel_rfl) (by decide) (rfl) (by kernel_rfl) fun K hK=>?_
     refine EZ 2 0 (.agg (DA d)) (DA d) bz y fun ct b0 b8=>hK _ _ ?_
     refine Ao [1] (DW aQ aI aX aU a f) [⟨[.bool found],some 4⟩,⟨RM least,some 107⟩,⟨[],some 105⟩,⟨UB g r_ m k p l q,none⟩,⟨DA d,some 105⟩,⟨RM c,some 107⟩] ?_
     refine Ax [1,2,0] (by kernel_rfl) (by rfl) (a4 _ _ ?_)
     exact XY _ ⟨_,rfl,b0.kp,b8,Ae.le_refl _⟩
    ·
     refine EZ 2 0 (.agg (DA d)) (DA d) az y fun cu b1 al=>hK _ _ (Ay.forget [2] al.plOk) ?_
     refine Dl 1 fun K hK=>?_
     refine Bk b1 (Ay.forget [2] al.plOk) rfl (by decide) (by kernel_rfl) fun cb (b2:Kn 42 (DW aQ aI aX aU a f) ((tA 41 (RM c))::(tA 40 (DA d))::(tP 7 5 0)::Qo) cb)=>hK _ _ (Ay.forget [2] al.plOk) ?_
     refine Ax [1,2,0] (by kernel_rfl) (by rfl) (a4 _ _ ?_)
     exact XY _ ⟨_,rfl,b2.kp,al,Ae.le_refl _⟩
   ·
    rw [ao,XV] at H
    refine wp_skip ?_
    obtain rfl:=XZ H
    exact GS rfl ⟨ar,XU z ab,rfl,(y.cutRw 0).cutPl 3 (by kernel_rfl)⟩
theorem Lj {h0:Ae} {aQ aI aX:Nat}:V4 (E5 h0 aQ aI aX) (Ge aQ aI aX):=by
 refine⟨fun s F F' h h' hs hle hX hh=>?_,fun s F h hs b hb=>?_⟩
 ·
  obtain⟨h9,⟨d0_1,d0_2,d1_2,_⟩,⟨f0,n0⟩,⟨f1,n1⟩,⟨f2,n2⟩,_⟩:=hs
  exact⟨XU h9 hle,⟨d0_1,d0_2,d1_2,trivial⟩,⟨(hX _ (.inl rfl)).trans f0,fun o=>N8 (hh _ (.inl rfl) o) (n0 o)⟩,⟨(hX _ (.inr (.inl rfl))).trans f1,fun o=>N8 (hh _ (.inr (.inl rfl)) o) (n1 o)⟩,⟨(hX _ (.inr (.inr (rfl)))).trans f2,fun o=>N8 (hh _ (.inr (.inr (rfl))) o) (n2 o)⟩,trivial⟩
 ·
  obtain⟨h9,⟨d0_1,d0_2,d1_2,_⟩,⟨f0,n0⟩,⟨f1,n1⟩,⟨f2,n2⟩,_⟩:=hs
  rcases hb with rfl | rfl | rfl
  ·
   rw [f0]; rfl
  ·
   rw [f1]; rfl
  ·
   rw [f2]; rfl
theorem Ka {fw:World} {h:Ae} {Y:Nat→Option Obj} {w:World} {aQ aI aX:Nat} (s:Bool×Bn×Ar) (hl:Ah ⟨fw,h,Y⟩ h [(aQ,0),(aI,0),(aX,0)] [⟨[.bool s.1],some 4⟩,⟨[Ws s.2.1.lJ,Ws s.2.1.sum],some 107⟩,⟨[Ws s.2.2.lD.a0,Ws s.2.2.lD.a1,Ws s.2.2.lD.a2,Ws s.2.2.lD.a3,Ws s.2.2.lE.a0,Ws s.2.2.lE.a1,Ws s.2.2.lE.a2,Ws s.2.2.lE.a3,.bool s.2.2.lC.a0,.bool s.2.2.lC.a1],some 105⟩] [] w) :
  ∃ F1:Fr,Ah F1 h [] [] [] w∧E5 h aQ aI aX s F1 h∧∀ (G:Fr)(h':Ae)(w':World)(s':Bool×Bn×Ar),Ae.le h h'→Fr.Sim (Ge aQ aI aX) F1 G→E5 h aQ aI aX s' G h'→Ah G h' [] [] [] w' →
   Ah ⟨fw,h,Y⟩ h' [(aQ,0),(aI,0),(aX,0)] [⟨[.bool s'.1],some 4⟩,⟨[Ws s'.2.1.lJ,Ws s'.2.1.sum],some 107⟩,⟨[Ws s'.2.2.lD.a0,Ws s'.2.2.lD.a1,Ws s'.2.2.lD.a2,Ws s'.2.2.lD.a3,Ws s'.2.2.lE.a0,Ws s'.2.2.lE.a1,Ws s'.2.2.lE.a2,Ws s'.2.2.lE.a3,.bool s'.2.2.lC.a0,.bool s'.2.2.lC.a1],some 105⟩] [] w'∧True:=by
 have d0_1:aQ≠aI:=hl.blk_ne (i:=0) (j:=1) rfl rfl rfl rfl (by decide)
 have d0_2:aQ≠aX:=hl.blk_ne (i:=0) (j:=2) rfl rfl rfl rfl (by decide)
 have d1_2:aI≠aX:=hl.blk_ne (i:=1) (j:=2) rfl rfl rfl rfl (by decide)
 have px0:Y aQ=none:=hl.placeX (i:=0) rfl rfl
 have px1:Y aI=none:=hl.placeX (i:=1) rfl rfl
 have px2:Y aX=none:=hl.placeX (i:=2) rfl rfl
 obtain⟨q2,n2⟩:=Ah.hide (e:=[(aQ,0),(aI,0)]) (pl:=[⟨[.bool s.1],some 4⟩,⟨[Ws s.2.1.lJ,Ws s.2.1.sum],some 107⟩]) (b:=aX) (T:=105) (cs:=[Ws s.2.2.lD.a0,Ws s.2.2.lD.a1,Ws s.2.2.lD.a2,Ws s.2.2.lD.a3,Ws s.2.2.lE.a0,Ws s.2.2.lE.a1,Ws s.2.2.lE.a2,Ws s.2.2.lE.a3,.bool s.2.2.lC.a0,.bool s.2.2.lC.a1]) ([.int .i64 s.2.2.lD.a0,.int .i64 s.2.2.lD.a1,.int .i64 s.2.2.lD.a2,.int .i64 s.2.2.lD.a3,.int .i64 s.2.2.lE.a0,.int .i64 s.2.2.lE.a1,.int .i64 s.2.2.lE.a2,.int .i64 s.2.2.lE.a3,.bool s.2.2.lC.a0,.bool s.2.2.lC.a1]:Wx) hl rfl (by kernel_rfl) rfl
 obtain⟨q1,n1⟩:=Ah.hide (e:=[(aQ,0)]) (pl:=[⟨[.bool s.1],some 4⟩]) (b:=aI) (T:=107) (cs:=[Ws s.2.1.lJ,Ws s.2.1.sum]) ([.int .i64 s.2.1.lJ,.int .i64 s.2.1.sum]:Wx) q2 rfl (by kernel_rfl) rfl
 obtain⟨q0,n0⟩:=Ah.hide (e:=[]) (pl:=[]) (b:=aQ) (T:=4) (cs:=[.bool s.1]) ([.bool s.1]:Wx) q1 rfl (by kernel_rfl) rfl
 refine⟨_,q0,⟨Ae.le_refl _,⟨d0_1,d0_2,d1_2,trivial⟩,⟨Fr.put_X _ _ _,n0⟩,⟨(Fr.put_ne _ _ d0_1.symm).trans (Fr.put_X _ _ _),n1⟩,⟨(Fr.put_ne _ _ d0_2.symm).trans ((Fr.put_ne _ _ d1_2.symm).trans (Fr.put_X _ _ _)),n2⟩,trivial⟩,fun G h' w' s' hle hsim hs' hm'=>?_⟩
 obtain⟨h9,_,⟨f0,g0⟩,⟨f1,g1⟩,⟨f2,g2⟩,_⟩:=hs'
 have u0:=Ah.unhide (e:=[]) (pl:=[]) (b:=aQ) (T:=4) (cs:=[.bool s'.1]) ([.bool s'.1]:Wx) hm' f0 g0 rfl (by kernel_rfl) (by kernel_rfl) rfl
 have u1:=Ah.unhide (e:=[(aQ,0)]) (pl:=[⟨[.bool s'.1],some 4⟩]) (b:=aI) (T:=107) (cs:=[Ws s'.2.1.lJ,Ws s'.2.1.sum]) ([.int .i64 s'.2.1.lJ,.int .i64 s'.2.1.sum]:Wx) u0 ((Fr.put_ne _ _ d0_1.symm).trans f1) g1 rfl (by kernel_rfl) (by kernel_rfl) rfl
 have u2:=Ah.unhide (e:=[(aQ,0),(aI,0)]) (pl:=[⟨[.bool s'.1],some 4⟩,⟨[Ws s'.2.1.lJ,Ws s'.2.1.sum],some 107⟩]) (b:=aX) (T:=105) (cs:=[Ws s'.2.2.lD.a0,Ws s'.2.2.lD.a1,Ws s'.2.2.lD.a2,Ws s'.2.2.lD.a3,Ws s'.2.2.lE.a0,Ws s'.2.2.lE.a1,Ws s'.2.2.lE.a2,Ws s'.2.2.lE.a3,.bool s'.2.2.lC.a0,.bool s'.2.2.lC.a1]) ([.int .i64 s'.2.2.lD.a0,.int .i64 s'.2.2.lD.a1,.int .i64 s'.2.2.lD.a2,.int .i64 s'.2.2.lD.a3,.int .i64 s'.2.2.lE.a0,.int .i64 s'.2.2.lE.a1,.int .i64 s'.2.2.lE.a2,.int .i64 s'.2.2.lE.a3,.bool s'.2.2.lC.a0,.bool s'.2.2.lC.a1]:Wx) u1 ((Fr.put_ne _ _ d1_2.symm).trans ((Fr.put_ne _ _ d0_2.symm).trans f2)) g2 rfl (by kernel_rfl) (by kernel_rfl) rfl
 have hF:Fr.put (Fr.put (Fr.put G aQ none) aI none) aX none=⟨fw,h,Y⟩:=by
  refine Fr.eqOf hsim.w hsim.h fun b=>?_
  by_cases e2:b=aX
  ·
   subst e2; rw [Fr.put_X]; exact px2.symm
  rw [Fr.put_ne _ _ e2]
  by_cases e1:b=aI
  ·
   subst e1; rw [Fr.put_X]; exact px1.symm
  rw [Fr.put_ne _ _ e1]
  by_cases e0:b=aQ
  ·
   subst e0; rw [Fr.put_X]; exact px0.symm
  rw [Fr.put_ne _ _ e0]
  refine(hsim.X b (fun hb=>by rcases hb with hb | hb | hb <;> contradiction)).trans ?_
  rw [Fr.put_ne _ _ e0,Fr.put_ne _ _ e1,Fr.put_ne _ _ e2]
 rw [hF] at u2
 exact⟨u2,trivial⟩
theorem Lk (n:Nat) {h0:Ae} {aQ aI aX:Nat} {aU:Nat} (r_:Af) (cM:CY h0 aU r_):Uo (E5 h0 aQ aI aX) (Ge aQ aI aX) (.func (.func 48) #[] #[.pointer (some ⟨aQ,0,none⟩),.pointer (some ⟨aI,0,none⟩),.pointer (some ⟨aU,0,none⟩),.pointer (some ⟨aX,0,none⟩)]) (fun s x0 x1=>Cw n x0 x1 s.1 s.2.1 s.2.2 r_):=by
 intro s F h w x0 cs0 hx0 x1 cs1 hx1 s' hs hm H
 obtain⟨h9,⟨d0_1,d0_2,d1_2,_⟩,⟨f0,n0⟩,⟨f1,n1⟩,⟨f2,n2⟩,_⟩:=hs
 have u0:=Ah.unhide (e:=[]) (pl:=[]) (b:=aQ) (T:=4) (cs:=[.bool s.1]) ([.bool s.1]:Wx) hm f0 n0 rfl (by kernel_rfl) (by kernel_rfl) rfl
 have u1:=Ah.unhide (e:=[(aQ,0)]) (pl:=[⟨[.bool s.1],some 4⟩]) (b:=aI) (T:=107) (cs:=[Ws s.2.1.lJ,Ws s.2.1.sum]) ([.int .i64 s.2.1.lJ,.int .i64 s.2.1.sum]:Wx) u0 ((Fr.put_ne _ _ d0_1.symm).trans f1) n1 rfl (by kernel_rfl) (by kernel_rfl) rfl
 have u2:=Ah.unhide (e:=[(aQ,0),(aI,0)]) (pl:=[⟨[.bool s.1],some 4⟩,⟨[Ws s.2.1.lJ,Ws s.2.1.sum],some 107⟩]) (b:=aX) (T:=105) (cs:=[Ws s.2.2.lD.a0,Ws s.2.2.lD.a1,Ws s.2.2.lD.a2,Ws s.2.2.lD.a3,Ws s.2.2.lE.a0,Ws s.2.2.lE.a1,Ws s.2.2.lE.a2,Ws s.2.2.lE.a3,.bool s.2.2.lC.a0,.bool s.2.2.lC.a1]) ([.int .i64 s.2.2.lD.a0,.int .i64 s.2.2.lD.a1,.int .i64 s.2.2.lD.a2,.int .i64 s.2.2.lD.a3,.int .i64 s.2.2.lE.a0,.int .i64 s.2.2.lE.a1,.int .i64 s.2.2.lE.a2,.int .i64 s.2.2.lE.a3,.bool s.2.2.lC.a0,.bool s.2.2.lC.a1]:Wx) u1 ((Fr.put_ne _ _ d1_2.symm).trans ((Fr.put_ne _ _ d0_2.symm).trans f2)) n2 rfl (by kernel_rfl) (by kernel_rfl) rfl
 refine⟨48,_,_,rfl,fun _ _=>by kernel_rfl,Calls.mono (Mf n x0 hx0 x1 hx1 s.1 s.2.1 s.2.2 r_ (cM.mono h9) u2 H) ?_⟩
 rintro en w' ⟨v,rfl,h2,hle,rfl,m2⟩
 obtain⟨q2,_⟩:=Ah.hide (e:=[(aQ,0),(aI,0)]) (pl:=[⟨[.bool s'.1],some 4⟩,⟨[Ws s'.2.1.lJ,Ws s'.2.1.sum],some 107⟩]) (b:=aX) (T:=105) (cs:=[Ws s'.2.2.lD.a0,Ws s'.2.2.lD.a1,Ws s'.2.2.lD.a2,Ws s'.2.2.lD.a3,Ws s'.2.2.lE.a0,Ws s'.2.2.lE.a1,Ws s'.2.2.lE.a2,Ws s'.2.2.lE.a3,.bool s'.2.2.lC.a0,.bool s'.2.2.lC.a1]) ([.int .i64 s'.2.2.lD.a0,.int .i64 s'.2.2.lD.a1,.int .i64 s'.2.2.lD.a2,.int .i64 s'.2.2.lD.a3,.int .i64 s'.2.2.lE.a0,.int .i64 s'.2.2.lE.a1,.int .i64 s'.2.2.lE.a2,.int .i64 s'.2.2.lE.a3,.bool s'.2.2.lC.a0,.bool s'.2.2.lC.a1]:Wx) m2 rfl (by kernel_rfl) rfl
 obtain⟨q1,_⟩:=Ah.hide (e:=[(aQ,0)]) (pl:=[⟨[.bool s'.1],some 4⟩]) (b:=aI) (T:=107) (cs:=[Ws s'.2.1.lJ,Ws s'.2.1.sum]) ([.int .i64 s'.2.1.lJ,.int .i64 s'.2.1.sum]:Wx) q2 rfl (by kernel_rfl) rfl
 obtain⟨q0,_⟩:=Ah.hide (e:=[]) (pl:=[]) (b:=aQ) (T:=4) (cs:=[.bool s'.1]) ([.bool s'.1]:Wx) q1 rfl (by kernel_rfl) rfl
 refine⟨_,rfl,rfl,h2,Fr.put (Fr.put (Fr.put (Fr.put (Fr.put (Fr.put F aQ none) aI none) aX none) aX (some (.cells ([.int .i64 s'.2.2.lD.a0,.int .i64 s'.2.2.lD.a1,.int .i64 s'.2.2.lD.a2,.int .i64 s'.2.2.lD.a3,.int .i64 s'.2.2.lE.a0,.int .i64 s'.2.2.lE.a1,.int .i64 s'.2.2.lE.a2,.int .i64 s'.2.2.lE.a3,.bool s'.2.2.lC.a0,.bool s'.2.2.lC.a1]:Wx).toArray 105 (0,0)))) aI (some (.cells ([.int .i64 s'.2.1.lJ,.int .i64 s'.2.1.sum]:Wx).toArray 107 (0,0)))) aQ (some (.cells ([.bool s'.1]:Wx).toArray 4 (0,0))),hle,⟨rfl,rfl,fun b hb=>?_⟩,⟨XU h9 hle,⟨d0_1,d0_2,d1_2,trivial⟩,⟨Fr.put_X _ _ _,n0⟩,⟨(Fr.put_ne _ _ d0_1.symm).trans (Fr.put_X _ _ _),n1⟩,⟨(Fr.put_ne _ _ d0_2.symm).trans ((Fr.put_ne _ _ d1_2.symm).trans (Fr.put_X _ _ _)),n2⟩,trivial⟩,q0⟩
 have e0:b≠aQ:=fun e=>hb (.inl e)
 have e1:b≠aI:=fun e=>hb (.inr (.inl e))
 have e2:b≠aX:=fun e=>hb (.inr (.inr (e)))
 rw [Fr.put_ne _ _ e0,Fr.put_ne _ _ e1,Fr.put_ne _ _ e2,Fr.put_ne _ _ e2,Fr.put_ne _ _ e1,Fr.put_ne _ _ e0]
abbrev Tx (cH:(Bool×Bn×Ar)):=([Ws cH.2.2.lD.a0,Ws cH.2.2.lD.a1,Ws cH.2.2.lD.a2,Ws cH.2.2.lD.a3,Ws cH.2.2.lE.a0,Ws cH.2.2.lE.a1,Ws cH.2.2.lE.a2,Ws cH.2.2.lE.a3,.bool cH.2.2.lC.a0,.bool cH.2.2.lC.a1]:List SC)
theorem Ji (n:Nat) {h:Ae} {w:World} (hh:Dk h w) (r_:Af) {aP:Wx} (aW:rep h r_ aP) {r:An×Int} (H:Ek n r_=some r) :
  Calls Tryz.prog 25 #[.agg aP.toArray] w (Dq (fun h v=>∃ v0 v1,v=.tuple #[v0,v1]∧(∃ cs,v0=.agg cs.toArray∧rep h r.1 cs)∧(v1=.int .i64 r.2)) h w):=by
 obtain⟨_,_,rfl,⟨b,g,rfl,q⟩,⟨_,_,rfl,⟨_,_,rfl,rfl,rfl⟩,⟨_,_,rfl,⟨d,j,rfl,u⟩,⟨_,_,rfl,⟨f,k,rfl,x⟩,⟨_,_,rfl,rfl,⟨_,_,rfl,rfl,⟨_,_,rfl,rfl,rfl⟩⟩⟩⟩⟩⟩⟩:=aW
 refine enter 23 [.agg (UB b r_ g d j f k)] Tryz.func25 rfl rfl rfl rfl fun t hk=>?_
 have hm:=Ah.begin h w hh
 unfold Ek at H
 refine XT (Aa (wl fun K hK=>?_))
 refine wb (.agg (UB b r_ g d j f k)) hk hm fun a ci de (bk:Kn 23 [(a,0)] [tP 1 0 0,tA 0 (UB b r_ g d j f k)] ci) b7=>hK _ _ ?_
 refine wl fun K hK=>?_
 refine wa UE bk b7 fun m ck dg (bl:Kn 23 [(a,0),(m,0)] [tP 2 1 0,tP 1 0 0,tA 0 (UB b r_ g d j f k)] ck) aj=>hK _ _ ?_
 refine Rk 2 1 Fo bl aj fun c0 bm=>?_
 refine wf (XT (XT (Aa (Rk 0 1 ((tA 8 (UB b r_ g d j f k))::Fo) bm aj fun c1 bn=>?_))))
 obtain⟨x9,iL,H⟩:=Av H
 refine wl fun K hK=>?_
 refine wc [.agg (UB b r_ g d j f k)] bn aj (Eo n aj.has r_ ((Ab (Ad q) (Ab (Ab Ac Ac) (Ab (Ad u) (Ab (Ad x) (Ab Ac (Ab Ac (Ab Ac Ac))))))):rep h r_ _) iL) fun da bc dh a7 ap ah=>?_
 replace q:=q.mono ap
 replace u:=u.mono ap
 replace x:=x.mono ap
 obtain rfl:=a7
 refine⟨.one (.c (Ws x9)),rfl,fun cl (bo:Kn 23 [(a,0),(m,0)] ((tI 9 x9)::(tA 8 (UB b r_ g d j f k))::Fo) cl)=>hK _ _ ?_⟩
 refine Rk 2 1 ((tI 4 x9)::Fo) bo ah fun c2 bp=>?_
 refine wf (XT (Aa (Rk 0 2 ((tB 11 (x9 != 0))::(tI 4 x9)::Fo) bp ah fun c3 an=>?_)))
 refine wf (wC ((x9 != 0)) an (fun ak=>?_) (fun ak=>?_))
 ·
  rw [ak,XW] at H
  refine XT (Aa (Rk 0 2 [tI 13 x9,tA 12 UE,tP 2 1 0] an ah fun c4 bq=>?_))
  refine wl fun K hK=>?_
  refine EZ 1 0 (.agg UE) UE bq ah fun di br ay=>hK _ _ ?_
  refine Rk 3 1 [tI 3 x9,tP 2 1 0] br ay fun c5 bs=>?_
  refine wf (wp_ret ?_)
  obtain rfl:=XZ H
  exact rt (.tup [.agg UE,.c (Ws x9)]) bs ay ⟨_,_,rfl,⟨_,rfl,((Ab (Ad A4.nil) (Ab (Ad A4.nil) (Ad A4.nil))):rep bc ((An.mk ([]:List Int) ([]:List Int) ([]:List Bool)):An) _)⟩,rfl⟩
 ·
  rw [ak,XV] at H
  refine wp_skip (XT (Aa (wl fun K hK=>?_)))
  refine wa UX an ah fun l a4 dj (bt:Kn 23 [(a,0),(m,0),(l,0)] ((tP 5 2 0)::(tB 11 (x9 != 0))::(tI 4 x9)::Fo) a4) b8=>hK _ _ ?_
  have bu:Kn 23 [(a,0),(m,0),(l,0)] ((tP 5 2 0)::Fo) a4:=bt.kp
  refine wf (XT (Aa (wl fun K hK=>?_)))
  refine wa [Ws 0,Ws 0] bu b8 fun o cm dk (bv:Kn 23 [(a,0),(m,0),(l,0),(o,0)] ((tP 6 3 0)::(tP 5 2 0)::Fo) cm) b9=>hK _ _ ?_
  refine wf (XT (Aa (wl fun K hK=>?_)))
  refine wa [.bool false] bv b9 fun p cn dl (bw:Kn 23 (Fd a m l o p) ((tP 7 4 0)::(tP 6 3 0)::(tP 5 2 0)::Fo) cn) ca=>hK _ _ ?_
  refine wl fun K hK=>?_
  refine EZ 4 0 (.c (.bool false)) [.bool false] bw ca fun cp bx az=>hK _ _ ?_
  refine wf (XT (Aa (Rk 0 1 ((tA 14 (UB b r_ g d j f k))::(tP 7 4 0)::(tP 6 3 0)::(tP 5 2 0)::Fo) bx az fun c6 bz=>?_)))
  obtain⟨ag,aq,av,ar⟩:=az.settlePlc (i:=0) rfl
  replace q:=q.mono aq
  replace u:=u.mono aq
  replace x:=x.mono aq
  replace ar:Ah ⟨w,h,A6⟩ ag (Fd a m l o p) [⟨UB b r_ g d j f k,none⟩,⟨UE,some 50⟩,⟨UX,some 105⟩,⟨[Ws 0,Ws 0],some 107⟩,⟨[.bool false],some 4⟩] [] cp:=ar
  have al:CY ag a (r_:Af):=CY.of (e:=(Fd a m l o p)) (cs:=(UB b r_ g d j f k)) ((Ab (Ad q) (Ab (Ab Ac Ac) (Ab (Ad u) (Ab (Ad x) (Ab Ac (Ab Ac (Ab Ac Ac))))))):rep ag (r_:Af) _) rfl av
  have au:AL ag a [.slice b r_.lA.length g,.int .i64 r_.turn.lo,.int .i64 r_.turn.hi,.slice d r_.lB.length j,.slice f r_.lC.length k,.int .i64 r_.lI,.int .i64 r_.gap,.int .i64 r_.fr,.int .i64 r_.to_]:=AL.of (e:=[(a,0),(m,0),(l,0),(o,0),(p,0)]) (cs:=[.slice b r_.lA.length g,.int .i64 r_.turn.lo,.int .i64 r_.turn.hi,.slice d r_.lB.length j,.slice f r_.lC.length k,.int .i64 r_.lI,.int .i64 r_.gap,.int .i64 r_.fr,.int .i64 r_.to_]) rfl av
  refine Hn 1 #[] #[.pointer (some ⟨p,0,none⟩),.pointer (some ⟨o,0,none⟩),.pointer (some ⟨a,0,none⟩),.pointer (some ⟨l,0,none⟩)] bz rfl rfl (rfl) rfl (by decide) (by rfl) (by rfl) (by rfl) (by rfl) fun co (b0:Kn 23 (Fd a m l o p) ((15,.one (.c (.func (.func 48) #[] #[.pointer (some ⟨p,0,none⟩),.pointer (some ⟨o,0,none⟩),.pointer (some ⟨a,0,none⟩),.pointer (some ⟨l,0,none⟩)])))::(tA 14 (UB b r_ g d j f k))::(tP 7 4 0)::(tP 6 3 0)::(tP 5 2 0)::Fo) co)=>?_
  obtain⟨cH,eV,H⟩:=Av H
  obtain⟨cu,cv,b4,cg⟩:=ar.lend0 [4,3,2] [] (by kernel_rfl) (by kernel_rfl) (by kernel_rfl) (by kernel_rfl)
  obtain⟨cr,b5,a8,bd⟩:=Ka (false,Bn.mk 0 0,(Ar.mk (AS.mk 0 0 0 0) (AS.mk 0 0 0 0) (Bd.mk false false))) b4
  refine wl fun K hK=>?_
  refine OC [.agg (UB b r_ g d j f k),.c (.func (.func 48) #[] #[.pointer (some ⟨p,0,none⟩),.pointer (some ⟨o,0,none⟩),.pointer (some ⟨a,0,none⟩),.pointer (some ⟨l,0,none⟩)])] _ b0 rfl rfl (by decide) (by rfl) rfl (fun _ _=>by kernel_rfl) (FO n Lj (fun s y0 y1=>Cw n y0 y1 s.1 s.2.1 s.2.2 r_) (Lk n r_ al) r_ ((Ab (Ad q) (Ab (Ab Ac Ac) (Ab (Ad u) (Ab (Ad x) (Ab Ac (Ab Ac (Ab Ac Ac))))))):rep ag r_ _) (false,Bn.mk 0 0,(Ar.mk (AS.mk 0 0 0 0) (AS.mk 0 0 0 0) (Bd.mk false false))) a8 b5 eV) fun db cq a9=>?_
  obtain⟨rfl,ai,ct,af,ch,ba,cb⟩:=a9
  obtain⟨cc,_⟩:=bd _ _ _ _ af ch ba cb
  have y:=cg _ _ _ [] af rfl (Nat.le_refl _) (by kernel_rfl) cc
  replace q:=q.mono af
  replace u:=u.mono af
  replace x:=x.mono af
  replace al:=al.mono af
  replace au:=au.mono af
  replace y:Ah ⟨w,h,A6⟩ ai (Fd a m l o p) [⟨UB b r_ g d j f k,none⟩,⟨UE,some 50⟩,⟨Tx cH,some 105⟩,⟨[Ws cH.2.1.lJ,Ws cH.2.1.sum],some 107⟩,⟨[.bool cH.1],some 4⟩] [] cq:=y
  refine⟨.tup [],rfl,fun a5 (b1:Kn 23 (Fd a m l o p) ((16,.tup [])::(15,.one (.c (.func (.func 48) #[] #[.pointer (some ⟨p,0,none⟩),.pointer (some ⟨o,0,none⟩),.pointer (some ⟨a,0,none⟩),.pointer (some ⟨l,0,none⟩)])))::(tA 14 (UB b r_ g d j f k))::(tP 7 4 0)::(tP 6 3 0)::(tP 5 2 0)::Fo) a5)=>hK _ _ ?_⟩
  have b2:Kn 23 (Fd a m l o p) ((tP 7 4 0)::(tP 5 2 0)::Fo) a5:=b1.kp
  refine wf (XT (XT (Aa (Rk 0 2 ((tB 18 (!cH.1))::(tP 5 2 0)::Fo) b2 y fun c7 ao=>?_))))
  refine wf (wC ((!cH.1)) ao (fun am=>?_) (fun am=>?_))
  ·
   rw [am,XW] at H
   refine XT (Aa (Rk 0 1 [tA 19 UE,tP 2 1 0] ao y fun c8 b3=>?_))
   refine wl fun K hK=>?_
   refine EZ 1 0 (.agg UE) UE b3 y fun dc be aw=>hK _ _ ?_
   refine Rk 2 1 [tI 3 9,tP 2 1 0] be aw fun cx bf=>?_
   refine wf (wp_ret ?_)
   obtain rfl:=XZ H
   exact rt (.tup [.agg UE,.c (Ws 9)]) bf aw ⟨_,_,rfl,⟨_,rfl,((Ab (Ad A4.nil) (Ab (Ad A4.nil) (Ad A4.nil))):rep ai ((An.mk ([]:List Int) ([]:List Int) ([]:List Bool)):An) _)⟩,rfl⟩
  ·
   rw [am,XV] at H
   refine wp_skip (XT (Aa (Rk 0 2 [tA 21 (UB b r_ g d j f k),tA 20 (Tx cH),tP 2 1 0] ao y fun cy bg=>?_)))
   obtain⟨fC,kE,H⟩:=Av H
   refine wl fun K hK=>?_
   refine wc [.agg (Tx cH),.agg (UB b r_ g d j f k)] bg y (Dp n y.has cH.2.2 ((Ab (Ab Ac (Ab Ac (Ab Ac Ac))) (Ab (Ab Ac (Ab Ac (Ab Ac Ac))) (Ab B3 B3))):rep ai cH.2.2 _) r_ ((Ab (Ad q) (Ab (Ab Ac Ac) (Ab (Ad u) (Ab (Ad x) (Ab Ac (Ab Ac (Ab Ac Ac))))))):rep ai r_ _) kE) fun c9 bb dd a6 cw b6=>?_
   obtain⟨_,rfl,⟨_,_,rfl,⟨z,ac,rfl,cd⟩,⟨_,_,rfl,⟨aa,ad,rfl,ce⟩,⟨ab,ae,rfl,cf⟩⟩⟩⟩:=a6
   refine⟨.one (.agg (OL z fC ac aa ad ab ae)),rfl,fun cj (bh:Kn 23 (Fd a m l o p) [tA 22 (OL z fC ac aa ad ab ae),tA 21 (UB b r_ g d j f k),tA 20 (Tx cH),tP 2 1 0] cj)=>hK _ _ ?_⟩
   refine wl fun K hK=>?_
   refine EZ 1 0 (.agg (OL z fC ac aa ad ab ae)) (OL z fC ac aa ad ab ae) bh b6 fun df bi ax=>hK _ _ ?_
   refine Rk 4 1 [tI 3 0,tP 2 1 0] bi ax fun cz bj=>?_
   refine wf (wp_ret ?_)
   obtain rfl:=XZ H
   exact rt (.tup [.agg (OL z fC ac aa ad ab ae),.c (Ws 0)]) bj ax ⟨_,_,rfl,⟨_,rfl,((Ab (Ad cd) (Ab (Ad ce) (Ad cf))):rep bb (fC:An) _)⟩,rfl⟩
end Go.Proofs.YtokchpjijlebiaaGreat
