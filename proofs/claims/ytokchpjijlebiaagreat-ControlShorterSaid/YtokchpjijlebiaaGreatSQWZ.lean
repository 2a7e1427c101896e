/- Each call computes its plain function. -/
import Derived.Test.YtokchpjijlebiaaGreatProg
import Derived.Test.YtokchpjijlebiaaGreatSQP0
import Derived.Test.YtokchpjijlebiaaGreatSQWQ
import Derived.Test.YtokchpjijlebiaaGreatSQWT
import Derived.Test.YtokchpjijlebiaaGreatSQWX
import Derived.Test.YtokchpjijlebiaaGreatSQWY
set_option linter.all false
namespace Go.Proofs.YtokchpjijlebiaaGreat
open Go Go.RowKit
open Rep (rep)
open KRep (kv)
open VRep (rv)
abbrev ET (c:BV):List SC:=[.int .i64 c.number,.int .i64 c.sum]
abbrev Nw (least:BV):List SC:=[.int .i64 least.number,.int .i64 least.sum]
abbrev DA (b_found b_least b_best b_r_ a f:Nat):Bf:=[(b_found,0),(b_least,0),(b_best,0),(b_r_,0),(a,0),(f,0)]
abbrev Is (g:Option Addr) (r_:Af) (m:Nat) (k:Option Addr) (p:Nat) (l:Option Addr) (q:Nat):List SC:=[.slice g r_.legs.length m,.int .i64 r_.turn.lo,.int .i64 r_.turn.hi,.slice k r_.buses.length p,.slice l r_.spares.length q,.int .i64 r_.unit,.int .i64 r_.gap,.int .i64 r_.fr,.int .i64 r_.to_]
abbrev DY (d:Au):List SC:=[.int .i64 d.holds.a0,.int .i64 d.holds.a1,.int .i64 d.holds.a2,.int .i64 d.holds.a3,.int .i64 d.turns.a0,.int .i64 d.turns.a1,.int .i64 d.turns.a2,.int .i64 d.turns.a3,.bool d.spares.a0,.bool d.spares.a1]
abbrev Sg (best:Au):List SC:=[.int .i64 best.holds.a0,.int .i64 best.holds.a1,.int .i64 best.holds.a2,.int .i64 best.holds.a3,.int .i64 best.turns.a0,.int .i64 best.turns.a1,.int .i64 best.turns.a2,.int .i64 best.turns.a3,.bool best.spares.a0,.bool best.spares.a1]
abbrev Kc:TM:=[tP 7 5 0,tP 6 4 0,tP 2 0 0,tP 3 1 0,tP 4 3 0,tP 5 2 0]
abbrev Nx:TM:=[tP 2 0 0,tP 3 1 0,tP 5 2 0]
abbrev IW:TM:=(tB 9 true)::Kc
set_option maxRecDepth 100000 in
set_option maxHeartbeats 4000000 in
theorem Kd (n:Nat) {F:Fr} {h:Ae} {w:World} {b_found b_least b_r_ b_best:Nat} (d:Au) {cs_d:List Value} (hx_d:rep h d cs_d) (c:BV) {cs_c:List Value} (hx_c:rep h c cs_c) (found:Bool) (least:BV) (best:Au) (r_:Af) (hb_r_:Cr h b_r_ r_) (hm:Ah F h [(b_found,0),(b_least,0),(b_best,0)] [⟨[.bool found],some 4⟩,⟨[.int .i64 least.number,.int .i64 least.sum],some 107⟩,⟨[.int .i64 best.holds.a0,.int .i64 best.holds.a1,.int .i64 best.holds.a2,.int .i64 best.holds.a3,.int .i64 best.turns.a0,.int .i64 best.turns.a1,.int .i64 best.turns.a2,.int .i64 best.turns.a3,.bool best.spares.a0,.bool best.spares.a1],some 105⟩] [] w) {r:Bool×BV×Au} (H:DG n d c found least best r_=some r) :
  Calls Tryz.prog 48 #[.agg cs_d.toArray,.agg cs_c.toArray,.pointer (some ⟨b_found,0,none⟩),.pointer (some ⟨b_least,0,none⟩),.pointer (some ⟨b_r_,0,none⟩),.pointer (some ⟨b_best,0,none⟩)] w (P8 fun v w'=>∃ (h':Ae),Ae.le h h'∧(v=.tuple #[])∧Ah F h' [(b_found,0),(b_least,0),(b_best,0)] [⟨[.bool r.1],some 4⟩,⟨[.int .i64 r.2.1.number,.int .i64 r.2.1.sum],some 107⟩,⟨[.int .i64 r.2.2.holds.a0,.int .i64 r.2.2.holds.a1,.int .i64 r.2.2.holds.a2,.int .i64 r.2.2.holds.a3,.int .i64 r.2.2.turns.a0,.int .i64 r.2.2.turns.a1,.int .i64 r.2.2.turns.a2,.int .i64 r.2.2.turns.a3,.bool r.2.2.spares.a0,.bool r.2.2.spares.a1],some 105⟩] [] w'):=by
 obtain⟨_,_,rfl,⟨_,_,rfl,rfl,⟨_,_,rfl,rfl,⟨_,_,rfl,rfl,rfl⟩⟩⟩,⟨_,_,rfl,⟨_,_,rfl,rfl,⟨_,_,rfl,rfl,⟨_,_,rfl,rfl,rfl⟩⟩⟩,⟨_,_,rfl,rfl,rfl⟩⟩⟩:=hx_d
 obtain⟨_,_,rfl,rfl,rfl⟩:=hx_c
 obtain⟨_,hx_r_,hc_r_⟩:=id hb_r_
 obtain⟨_,_,rfl,⟨g,m,rfl,ah⟩,⟨_,_,rfl,⟨_,_,rfl,rfl,rfl⟩,⟨_,_,rfl,⟨k,p,rfl,ai⟩,⟨_,_,rfl,⟨l,q,rfl,aj⟩,⟨_,_,rfl,rfl,⟨_,_,rfl,rfl,⟨_,_,rfl,rfl,rfl⟩⟩⟩⟩⟩⟩⟩:=hx_r_
 refine G3 (e:=[(b_found,0),(b_least,0),(b_best,0),(b_r_,0)]) 42 [.agg (DY d),.agg (ET c),.c (.ptr 0 0),.c (.ptr 1 0),.c (.ptr 3 0),.c (.ptr 2 0)] Tryz.func48 rfl rfl rfl rfl fun t hk=>?_
 replace hm:=hm.addPlc (o:=0) (cs:=[.slice g r_.legs.length m,.int .i64 r_.turn.lo,.int .i64 r_.turn.hi,.slice k r_.buses.length p,.slice l r_.spares.length q,.int .i64 r_.unit,.int .i64 r_.gap,.int .i64 r_.fr,.int .i64 r_.to_]) (fun j c hj=>by rw [Nat.zero_add]; exact hc_r_ j _ (Aj hj)) rfl (by kernel_rfl) (by kernel_rfl)
 replace hm:Ah F h [(b_found,0),(b_least,0),(b_best,0),(b_r_,0)] [⟨[.bool found],some 4⟩,⟨Nw least,some 107⟩,⟨Sg best,some 105⟩,⟨Is g r_ m k p l q,none⟩] [] w:=hm
 unfold DG at H
 refine XT (Aa (wl fun K hK=>?_))
 refine wb (.agg (DY d)) hk hm fun a b9 cl (bd:Kn 42 [(b_found,0),(b_least,0),(b_best,0),(b_r_,0),(a,0)] [tP 6 4 0,tA 0 (DY d),tA 1 (ET c),tP 2 0 0,tP 3 1 0,tP 4 3 0,tP 5 2 0] b9) b4=>hK _ _ ?_
 refine wl fun K hK=>?_
 refine wb (.agg (ET c)) bd b4 fun f a6 cm (be:Kn 42 (DA b_found b_least b_best b_r_ a f) [tP 7 5 0,tP 6 4 0,tA 0 (DY d),tA 1 (ET c),tP 2 0 0,tP 3 1 0,tP 4 3 0,tP 5 2 0] a6) u=>hK _ _ ?_
 have bf:Kn 42 (DA b_found b_least b_best b_r_ a f) Kc a6:=be.kp
 refine wf (XT (XT ?_))
 obtain⟨a5,x,H⟩:=Ap H
 refine At (fun a' w'=>∃ (aq:Array Value)(aa:Ae),a' = ⟨aq,[]⟩∧Kn 42 (DA b_found b_least b_best b_r_ a f) [tP 7 5 0,tP 6 4 0,tP 2 0 0,tP 3 1 0,tP 4 3 0,tP 5 2 0,tB 34 a5] aq∧Ah F aa (DA b_found b_least b_best b_r_ a f) [⟨[.bool found],some 4⟩,⟨Nw least,some 107⟩,⟨Sg best,some 105⟩,⟨Is g r_ m k p l q,none⟩,⟨DY d,some 105⟩,⟨ET c,some 107⟩] [] w'∧Ae.le h aa) ?_ ?_
 ·
  refine Aa (Rk 0 2 ((tB 9 found)::Kc) bf u fun a7 au=>?_)
  rcases Bool.eq_false_or_eq_true (found) with ac | ac
  ·
   rw [ac,XW] at x
   have bg:Kn 42 (DA b_found b_least b_best b_r_ a f) IW a7:=(au.setB 9 true (by rfl) ac).kp
   refine Rk 2 4 ((tB 13 ((c.number == least.number) && ((c.sum == least.sum) && true)))::IW) bg u fun a8 av=>?_
   rcases Bool.eq_false_or_eq_true (((c.number == least.number) && ((c.sum == least.sum) && true))) with ad | ad
   ·
    rw [ad,XW] at x
    have bh:Kn 42 (DA b_found b_least b_best b_r_ a f) ((tB 13 true)::IW) a8:=(av.setB 13 true (by rfl) ad).kp
    refine Rk 6 21 ((tB 34 true)::Kc) bh u fun cd bi=>?_
    refine wf ?_
    obtain rfl:=XZ x
    exact XY _ ⟨_,rfl,bi.kp,u,Ae.le_refl _⟩
   ·
    rw [ad,XV] at x
    have bj:Kn 42 (DA b_found b_least b_best b_r_ a f) ((tB 13 false)::IW) a8:=(av.setB 13 false (by rfl) ad).kp
    refine Rk 6 7 ((tB 20 (decide (c.number>least.number)))::IW) bj u fun a9 aw=>?_
    rcases Bool.eq_false_or_eq_true (decide (c.number>least.number)) with ae | ae
    ·
     rw [ae,XW] at x
     have bk:Kn 42 (DA b_found b_least b_best b_r_ a f) ((tB 20 true)::IW) a9:=(aw.setB 20 true (by rfl) ae).kp
     refine Rk 13 14 ((tB 34 true)::Kc) bk u fun ce bl=>?_
     refine wf ?_
     obtain rfl:=XZ x
     exact XY _ ⟨_,rfl,bl.kp,u,Ae.le_refl _⟩
    ·
     rw [ae,XV] at x
     have bm:Kn 42 (DA b_found b_least b_best b_r_ a f) ((tB 20 false)::IW) a9:=(aw.setB 20 false (by rfl) ae).kp
     refine Rk 13 6 ((tB 26 (c.number == least.number))::(tB 20 false)::IW) bm u fun ba ax=>?_
     rcases Bool.eq_false_or_eq_true ((c.number == least.number)) with af | af
     ·
      rw [af,XW] at x
      have bn:Kn 42 (DA b_found b_least b_best b_r_ a f) ((tB 26 true)::(tB 20 false)::IW) ba:=(ax.setB 26 true (by rfl) af).kp
      refine Rk 19 8 ((tB 34 (decide (c.sum>least.sum)))::Kc) bn u fun cf bo=>?_
      refine wf ?_
      obtain rfl:=XZ x
      exact XY _ ⟨_,rfl,bo.kp,u,Ae.le_refl _⟩
     ·
      rw [af,XV] at x
      have bp:Kn 42 (DA b_found b_least b_best b_r_ a f) ((tB 26 false)::(tB 20 false)::IW) ba:=(ax.setB 26 false (by rfl) af).kp
      refine Rk 19 8 ((tB 34 false)::Kc) bp u fun cg bq=>?_
      refine wf ?_
      obtain rfl:=XZ x
      exact XY _ ⟨_,rfl,bq.kp,u,Ae.le_refl _⟩
  ·
   rw [ac,XV] at x
   have br:Kn 42 (DA b_found b_least b_best b_r_ a f) ((tB 9 false)::Kc) a7:=(au.setB 9 false (by rfl) ac).kp
   refine Rk 2 25 ((tB 34 false)::Kc) br u fun ch bs=>?_
   refine wf ?_
   obtain rfl:=XZ x
   exact XY _ ⟨_,rfl,bs.kp,u,Ae.le_refl _⟩
 ·
  rintro _ cn ⟨aq,aa,rfl,ap,ag,z⟩
  replace ah:=ah.mono z
  replace ai:=ai.mono z
  replace aj:=aj.mono z
  replace hb_r_:=hb_r_.mono z
  refine wC (a5) ap (fun an=>?_) (fun an=>?_)
  ·
   rw [an,XW] at H
   refine wp_ret ?_
   obtain rfl:=XZ H
   exact RP (.tup []) ap ag (by kernel_rfl) ⟨aa,z,rfl,(ag.cutRw 0).cutPl 3 (by kernel_rfl)⟩
  ·
   rw [an,XV] at H
   refine wp_skip (XT (Aa (Rk 0 4 ((tI 38 r_.gap)::(tA 36 (DY d))::(tA 35 (Is g r_ m k p l q))::(tP 7 5 0)::(tP 6 4 0)::Nx) ap ag fun ci bt=>?_)))
   obtain⟨x39,ex39,H⟩:=Ap H
   refine wl fun K hK=>?_
   refine wc [.agg (Is g r_ m k p l q),.agg (DY d),.c (.int .i64 r_.gap)] bt ag (Hl n ag.has r_ ((Ab (Ad ah) (Ab (Ab Ac Ac) (Ab (Ad ai) (Ab (Ad aj) (Ab Ac (Ab Ac (Ab Ac Ac))))))):rep aa r_ _) d ((Ab (Ab Ac (Ab Ac (Ab Ac Ac))) (Ab (Ab Ac (Ab Ac (Ab Ac Ac))) (Ab Bh Bh))):rep aa d _) r_.gap ex39) fun ck ar co bc ab y=>?_
   replace ah:=ah.mono ab
   replace ai:=ai.mono ab
   replace aj:=aj.mono ab
   replace hb_r_:=hb_r_.mono ab
   obtain rfl:=bc
   refine⟨.one (.c (.bool x39)),rfl,fun bb (bu:Kn 42 (DA b_found b_least b_best b_r_ a f) ((tB 39 x39)::(tI 38 r_.gap)::(tA 36 (DY d))::(tA 35 (Is g r_ m k p l q))::(tP 7 5 0)::(tP 6 4 0)::Nx) bb)=>hK _ _ ?_⟩
   have ay:Kn 42 (DA b_found b_least b_best b_r_ a f) ((tB 39 x39)::(tP 7 5 0)::(tP 6 4 0)::Nx) bb:=bu.kp
   refine wf (wC (x39) ay (fun ao=>?_) (fun ao=>?_))
   ·
    rw [ao,XW] at H
    refine Al (by kernel_rfl) ?_
    replace y:=y.drew
    refine Aq [1] (DA b_found b_least b_best b_r_ a f) [⟨[.bool found],some 4⟩,⟨Nw least,some 107⟩,⟨[],some 105⟩,⟨Is g r_ m k p l q,none⟩,⟨DY d,some 105⟩,⟨ET c,some 107⟩] ?_
    refine KC [0] [0] [40,7,2,3,5] ((tA 40 (DY d))::(tP 7 5 0)::Nx) (fun _ _ _ _ _ h=>h) ay (Be.forget [2] y.plOk) (by kernel_rfl) (by rfl) (by kernel_rfl) fun cj az=>?_
    refine C4 (fun W=>∀ a' w',(∃ (am:Array Value)(ak:Ae),a' = ⟨am,[]⟩∧Kn 42 (DA b_found b_least b_best b_r_ a f) [tA 41 (ET c),tP 2 0 0,tP 3 1 0] am∧Ah F ak (DA b_found b_least b_best b_r_ a f) [⟨[.bool found],some 4⟩,⟨Nw least,some 107⟩,⟨DY d,some 105⟩,⟨Is g r_ m k p l q,none⟩,⟨DY d,some 105⟩,⟨ET c,some 107⟩] [] w'∧Ae.le ar ak)→W (DA b_found b_least b_best b_r_ a f) [⟨[.bool found],some 4⟩,⟨Nw least,some 107⟩,⟨[],some 105⟩,⟨Is g r_ m k p l q,none⟩,⟨DY d,some 105⟩,⟨ET c,some 107⟩] [1,2,0] a' w') ?_ (fun a4=>?_)
    ·
     rintro _ cp ⟨am,ak,rfl,bv,b5,b3⟩
     refine C7 3 rfl (by kernel_rfl) (by decide) (rfl) (by kernel_rfl) fun K hK=>?_
     refine E3 1 0 (.agg (ET c)) (ET c) bv b5 fun cq bw b6=>hK _ _ ?_
     refine Aq [1] (DA b_found b_least b_best b_r_ a f) [⟨[.bool found],some 4⟩,⟨ET c,some 107⟩,⟨[],some 105⟩,⟨Is g r_ m k p l q,none⟩,⟨DY d,some 105⟩,⟨ET c,some 107⟩] ?_
     refine C7 4 rfl (by kernel_rfl) (by decide) (rfl) (by kernel_rfl) fun K hK=>?_
     refine E3 0 0 (.c (.bool true)) [.bool true] bw b6 fun cr bx b7=>hK _ _ ?_
     refine Aq [1] (DA b_found b_least b_best b_r_ a f) [⟨[.bool true],some 4⟩,⟨ET c,some 107⟩,⟨[],some 105⟩,⟨Is g r_ m k p l q,none⟩,⟨DY d,some 105⟩,⟨ET c,some 107⟩] ?_
     have cc:Kn 42 (DA b_found b_least b_best b_r_ a f) [] am:=bx.kp
     refine A0 (by kernel_rfl) ?_
     obtain rfl:=XZ H
     exact FL rfl ⟨ak,XU z (XU ab b3),rfl,(b7.cutRw 0).cutPl 3 (by kernel_rfl)⟩
    refine FY 1 2 rfl rfl (by kernel_rfl) (by decide) (rfl) (rfl) (fun K hK=>?_) (fun K hK=>?_)
    ·
     refine B7 az (Be.forget [2] y.plOk) rfl (by decide) (by kernel_rfl) fun ca (bz:Kn 42 (DA b_found b_least b_best b_r_ a f) ((tA 41 (ET c))::(tA 40 (DY d))::(tP 7 5 0)::Nx) ca)=>hK _ _ (Be.forget [2] y.plOk) ?_
     refine C7 2 rfl (by kernel_rfl) (by decide) (rfl) (by kernel_rfl) fun K hK=>?_
     refine E3 2 0 (.agg (DY d)) (DY d) bz y fun ct b0 b8=>hK _ _ ?_
     refine Aq [1] (DA b_found b_least b_best b_r_ a f) [⟨[.bool found],some 4⟩,⟨Nw least,some 107⟩,⟨[],some 105⟩,⟨Is g r_ m k p l q,none⟩,⟨DY d,some 105⟩,⟨ET c,some 107⟩] ?_
     refine Bl [1,2,0] (by kernel_rfl) (by rfl) (a4 _ _ ?_)
     exact XY _ ⟨_,rfl,b0.kp,b8,Ae.le_refl _⟩
    ·
     refine E3 2 0 (.agg (DY d)) (DY d) az y fun cu b1 al=>hK _ _ (Be.forget [2] al.plOk) ?_
     refine Dl 1 fun K hK=>?_
     refine B7 b1 (Be.forget [2] al.plOk) rfl (by decide) (by kernel_rfl) fun cb (b2:Kn 42 (DA b_found b_least b_best b_r_ a f) ((tA 41 (ET c))::(tA 40 (DY d))::(tP 7 5 0)::Nx) cb)=>hK _ _ (Be.forget [2] al.plOk) ?_
     refine Bl [1,2,0] (by kernel_rfl) (by rfl) (a4 _ _ ?_)
     exact XY _ ⟨_,rfl,b2.kp,al,Ae.le_refl _⟩
   ·
    rw [ao,XV] at H
    refine wp_skip ?_
    obtain rfl:=XZ H
    exact FL rfl ⟨ar,XU z ab,rfl,(y.cutRw 0).cutPl 3 (by kernel_rfl)⟩
theorem Jo {h0:Ae} {b_found b_least b_best:Nat}:Sc (D5 h0 b_found b_least b_best) (Fa b_found b_least b_best):=by
 refine⟨fun s F F' h h' hs hle hX hh=>?_,fun s F h hs b hb=>?_⟩
 ·
  obtain⟨h9,⟨d0_1,d0_2,d1_2,_⟩,⟨f0,n0⟩,⟨f1,n1⟩,⟨f2,n2⟩,_⟩:=hs
  exact⟨XU h9 hle,⟨d0_1,d0_2,d1_2,trivial⟩,⟨(hX _ (.inl rfl)).trans f0,fun o=>Lo (hh _ (.inl rfl) o) (n0 o)⟩,⟨(hX _ (.inr (.inl rfl))).trans f1,fun o=>Lo (hh _ (.inr (.inl rfl)) o) (n1 o)⟩,⟨(hX _ (.inr (.inr (rfl)))).trans f2,fun o=>Lo (hh _ (.inr (.inr (rfl))) o) (n2 o)⟩,trivial⟩
 ·
  obtain⟨h9,⟨d0_1,d0_2,d1_2,_⟩,⟨f0,n0⟩,⟨f1,n1⟩,⟨f2,n2⟩,_⟩:=hs
  rcases hb with rfl | rfl | rfl
  ·
   rw [f0]; rfl
  ·
   rw [f1]; rfl
  ·
   rw [f2]; rfl
theorem It {fw:World} {h:Ae} {Y:Nat→Option Obj} {w:World} {b_found b_least b_best:Nat} (s:Bool×BV×Au) (hl:Ah ⟨fw,h,Y⟩ h [(b_found,0),(b_least,0),(b_best,0)] [⟨[.bool s.1],some 4⟩,⟨[.int .i64 s.2.1.number,.int .i64 s.2.1.sum],some 107⟩,⟨[.int .i64 s.2.2.holds.a0,.int .i64 s.2.2.holds.a1,.int .i64 s.2.2.holds.a2,.int .i64 s.2.2.holds.a3,.int .i64 s.2.2.turns.a0,.int .i64 s.2.2.turns.a1,.int .i64 s.2.2.turns.a2,.int .i64 s.2.2.turns.a3,.bool s.2.2.spares.a0,.bool s.2.2.spares.a1],some 105⟩] [] w) :
  ∃ F1:Fr,Ah F1 h [] [] [] w∧D5 h b_found b_least b_best s F1 h∧∀ (G:Fr)(h':Ae)(w':World)(s':Bool×BV×Au),Ae.le h h'→Fr.Sim (Fa b_found b_least b_best) F1 G→D5 h b_found b_least b_best s' G h'→Ah G h' [] [] [] w' →
   Ah ⟨fw,h,Y⟩ h' [(b_found,0),(b_least,0),(b_best,0)] [⟨[.bool s'.1],some 4⟩,⟨[.int .i64 s'.2.1.number,.int .i64 s'.2.1.sum],some 107⟩,⟨[.int .i64 s'.2.2.holds.a0,.int .i64 s'.2.2.holds.a1,.int .i64 s'.2.2.holds.a2,.int .i64 s'.2.2.holds.a3,.int .i64 s'.2.2.turns.a0,.int .i64 s'.2.2.turns.a1,.int .i64 s'.2.2.turns.a2,.int .i64 s'.2.2.turns.a3,.bool s'.2.2.spares.a0,.bool s'.2.2.spares.a1],some 105⟩] [] w'∧True:=by
 have d0_1:b_found≠b_least:=hl.blk_ne (i:=0) (j:=1) rfl rfl rfl rfl (by decide)
 have d0_2:b_found≠b_best:=hl.blk_ne (i:=0) (j:=2) rfl rfl rfl rfl (by decide)
 have d1_2:b_least≠b_best:=hl.blk_ne (i:=1) (j:=2) rfl rfl rfl rfl (by decide)
 have px0:Y b_found=none:=hl.placeX (i:=0) rfl rfl
 have px1:Y b_least=none:=hl.placeX (i:=1) rfl rfl
 have px2:Y b_best=none:=hl.placeX (i:=2) rfl rfl
 obtain⟨q2,n2⟩:=Ah.hide (e:=[(b_found,0),(b_least,0)]) (pl:=[⟨[.bool s.1],some 4⟩,⟨[.int .i64 s.2.1.number,.int .i64 s.2.1.sum],some 107⟩]) (b:=b_best) (T:=105) (cs:=[.int .i64 s.2.2.holds.a0,.int .i64 s.2.2.holds.a1,.int .i64 s.2.2.holds.a2,.int .i64 s.2.2.holds.a3,.int .i64 s.2.2.turns.a0,.int .i64 s.2.2.turns.a1,.int .i64 s.2.2.turns.a2,.int .i64 s.2.2.turns.a3,.bool s.2.2.spares.a0,.bool s.2.2.spares.a1]) ([.int .i64 s.2.2.holds.a0,.int .i64 s.2.2.holds.a1,.int .i64 s.2.2.holds.a2,.int .i64 s.2.2.holds.a3,.int .i64 s.2.2.turns.a0,.int .i64 s.2.2.turns.a1,.int .i64 s.2.2.turns.a2,.int .i64 s.2.2.turns.a3,.bool s.2.2.spares.a0,.bool s.2.2.spares.a1]:List Value) hl rfl (by kernel_rfl) rfl
 obtain⟨q1,n1⟩:=Ah.hide (e:=[(b_found,0)]) (pl:=[⟨[.bool s.1],some 4⟩]) (b:=b_least) (T:=107) (cs:=[.int .i64 s.2.1.number,.int .i64 s.2.1.sum]) ([.int .i64 s.2.1.number,.int .i64 s.2.1.sum]:List Value) q2 rfl (by kernel_rfl) rfl
 obtain⟨q0,n0⟩:=Ah.hide (e:=[]) (pl:=[]) (b:=b_found) (T:=4) (cs:=[.bool s.1]) ([.bool s.1]:List Value) q1 rfl (by kernel_rfl) rfl
 refine⟨_,q0,⟨Ae.le_refl _,⟨d0_1,d0_2,d1_2,trivial⟩,⟨Fr.put_X _ _ _,n0⟩,⟨(Fr.put_ne _ _ d0_1.symm).trans (Fr.put_X _ _ _),n1⟩,⟨(Fr.put_ne _ _ d0_2.symm).trans ((Fr.put_ne _ _ d1_2.symm).trans (Fr.put_X _ _ _)),n2⟩,trivial⟩,fun G h' w' s' hle hsim hs' hm'=>?_⟩
 obtain⟨h9,_,⟨f0,g0⟩,⟨f1,g1⟩,⟨f2,g2⟩,_⟩:=hs'
 have u0:=Ah.unhide (e:=[]) (pl:=[]) (b:=b_found) (T:=4) (cs:=[.bool s'.1]) ([.bool s'.1]:List Value) hm' f0 g0 rfl (by kernel_rfl) (by kernel_rfl) rfl
 have u1:=Ah.unhide (e:=[(b_found,0)]) (pl:=[⟨[.bool s'.1],some 4⟩]) (b:=b_least) (T:=107) (cs:=[.int .i64 s'.2.1.number,.int .i64 s'.2.1.sum]) ([.int .i64 s'.2.1.number,.int .i64 s'.2.1.sum]:List Value) u0 ((Fr.put_ne _ _ d0_1.symm).trans f1) g1 rfl (by kernel_rfl) (by kernel_rfl) rfl
 have u2:=Ah.unhide (e:=[(b_found,0),(b_least,0)]) (pl:=[⟨[.bool s'.1],some 4⟩,⟨[.int .i64 s'.2.1.number,.int .i64 s'.2.1.sum],some 107⟩]) (b:=b_best) (T:=105) (cs:=[.int .i64 s'.2.2.holds.a0,.int .i64 s'.2.2.holds.a1,.int .i64 s'.2.2.holds.a2,.int .i64 s'.2.2.holds.a3,.int .i64 s'.2.2.turns.a0,.int .i64 s'.2.2.turns.a1,.int .i64 s'.2.2.turns.a2,.int .i64 s'.2.2.turns.a3,.bool s'.2.2.spares.a0,.bool s'.2.2.spares.a1]) ([.int .i64 s'.2.2.holds.a0,.int .i64 s'.2.2.holds.a1,.int .i64 s'.2.2.holds.a2,.int .i64 s'.2.2.holds.a3,.int .i64 s'.2.2.turns.a0,.int .i64 s'.2.2.turns.a1,.int .i64 s'.2.2.turns.a2,.int .i64 s'.2.2.turns.a3,.bool s'.2.2.spares.a0,.bool s'.2.2.spares.a1]:List Value) u1 ((Fr.put_ne _ _ d1_2.symm).trans ((Fr.put_ne _ _ d0_2.symm).trans f2)) g2 rfl (by kernel_rfl) (by kernel_rfl) rfl
 have hF:Fr.put (Fr.put (Fr.put G b_found none) b_least none) b_best none=⟨fw,h,Y⟩:=by
  refine Fr.eqOf hsim.w hsim.h fun b=>?_
  by_cases e2:b=b_best
  ·
   subst e2; rw [Fr.put_X]; exact px2.symm
  rw [Fr.put_ne _ _ e2]
  by_cases e1:b=b_least
  ·
   subst e1; rw [Fr.put_X]; exact px1.symm
  rw [Fr.put_ne _ _ e1]
  by_cases e0:b=b_found
  ·
   subst e0; rw [Fr.put_X]; exact px0.symm
  rw [Fr.put_ne _ _ e0]
  refine(hsim.X b (fun hb=>by rcases hb with hb | hb | hb <;> contradiction)).trans ?_
  rw [Fr.put_ne _ _ e0,Fr.put_ne _ _ e1,Fr.put_ne _ _ e2]
 rw [hF] at u2
 exact⟨u2,trivial⟩
theorem Jp (n:Nat) {h0:Ae} {b_found b_least b_best:Nat} {b_r_:Nat} (r_:Af) (hb_r_:Cr h0 b_r_ r_):QP (D5 h0 b_found b_least b_best) (Fa b_found b_least b_best) (.func (.func 48) #[] #[.pointer (some ⟨b_found,0,none⟩),.pointer (some ⟨b_least,0,none⟩),.pointer (some ⟨b_r_,0,none⟩),.pointer (some ⟨b_best,0,none⟩)]) (fun s x0 x1=>DG n x0 x1 s.1 s.2.1 s.2.2 r_):=by
 intro s F h w x0 cs0 hx0 x1 cs1 hx1 s' hs hm H
 obtain⟨h9,⟨d0_1,d0_2,d1_2,_⟩,⟨f0,n0⟩,⟨f1,n1⟩,⟨f2,n2⟩,_⟩:=hs
 have u0:=Ah.unhide (e:=[]) (pl:=[]) (b:=b_found) (T:=4) (cs:=[.bool s.1]) ([.bool s.1]:List Value) hm f0 n0 rfl (by kernel_rfl) (by kernel_rfl) rfl
 have u1:=Ah.unhide (e:=[(b_found,0)]) (pl:=[⟨[.bool s.1],some 4⟩]) (b:=b_least) (T:=107) (cs:=[.int .i64 s.2.1.number,.int .i64 s.2.1.sum]) ([.int .i64 s.2.1.number,.int .i64 s.2.1.sum]:List Value) u0 ((Fr.put_ne _ _ d0_1.symm).trans f1) n1 rfl (by kernel_rfl) (by kernel_rfl) rfl
 have u2:=Ah.unhide (e:=[(b_found,0),(b_least,0)]) (pl:=[⟨[.bool s.1],some 4⟩,⟨[.int .i64 s.2.1.number,.int .i64 s.2.1.sum],some 107⟩]) (b:=b_best) (T:=105) (cs:=[.int .i64 s.2.2.holds.a0,.int .i64 s.2.2.holds.a1,.int .i64 s.2.2.holds.a2,.int .i64 s.2.2.holds.a3,.int .i64 s.2.2.turns.a0,.int .i64 s.2.2.turns.a1,.int .i64 s.2.2.turns.a2,.int .i64 s.2.2.turns.a3,.bool s.2.2.spares.a0,.bool s.2.2.spares.a1]) ([.int .i64 s.2.2.holds.a0,.int .i64 s.2.2.holds.a1,.int .i64 s.2.2.holds.a2,.int .i64 s.2.2.holds.a3,.int .i64 s.2.2.turns.a0,.int .i64 s.2.2.turns.a1,.int .i64 s.2.2.turns.a2,.int .i64 s.2.2.turns.a3,.bool s.2.2.spares.a0,.bool s.2.2.spares.a1]:List Value) u1 ((Fr.put_ne _ _ d1_2.symm).trans ((Fr.put_ne _ _ d0_2.symm).trans f2)) n2 rfl (by kernel_rfl) (by kernel_rfl) rfl
 refine⟨48,_,_,rfl,fun _ _=>by kernel_rfl,Calls.mono (Kd n x0 hx0 x1 hx1 s.1 s.2.1 s.2.2 r_ (hb_r_.mono h9) u2 H) ?_⟩
 rintro en w' ⟨v,rfl,h2,hle,rfl,m2⟩
 obtain⟨q2,_⟩:=Ah.hide (e:=[(b_found,0),(b_least,0)]) (pl:=[⟨[.bool s'.1],some 4⟩,⟨[.int .i64 s'.2.1.number,.int .i64 s'.2.1.sum],some 107⟩]) (b:=b_best) (T:=105) (cs:=[.int .i64 s'.2.2.holds.a0,.int .i64 s'.2.2.holds.a1,.int .i64 s'.2.2.holds.a2,.int .i64 s'.2.2.holds.a3,.int .i64 s'.2.2.turns.a0,.int .i64 s'.2.2.turns.a1,.int .i64 s'.2.2.turns.a2,.int .i64 s'.2.2.turns.a3,.bool s'.2.2.spares.a0,.bool s'.2.2.spares.a1]) ([.int .i64 s'.2.2.holds.a0,.int .i64 s'.2.2.holds.a1,.int .i64 s'.2.2.holds.a2,.int .i64 s'.2.2.holds.a3,.int .i64 s'.2.2.turns.a0,.int .i64 s'.2.2.turns.a1,.int .i64 s'.2.2.turns.a2,.int .i64 s'.2.2.turns.a3,.bool s'.2.2.spares.a0,.bool s'.2.2.spares.a1]:List Value) m2 rfl (by kernel_rfl) rfl
 obtain⟨q1,_⟩:=Ah.hide (e:=[(b_found,0)]) (pl:=[⟨[.bool s'.1],some 4⟩]) (b:=b_least) (T:=107) (cs:=[.int .i64 s'.2.1.number,.int .i64 s'.2.1.sum]) ([.int .i64 s'.2.1.number,.int .i64 s'.2.1.sum]:List Value) q2 rfl (by kernel_rfl) rfl
 obtain⟨q0,_⟩:=Ah.hide (e:=[]) (pl:=[]) (b:=b_found) (T:=4) (cs:=[.bool s'.1]) ([.bool s'.1]:List Value) q1 rfl (by kernel_rfl) rfl
 refine⟨_,rfl,rfl,h2,Fr.put (Fr.put (Fr.put (Fr.put (Fr.put (Fr.put F b_found none) b_least none) b_best none) b_best (some (.cells ([.int .i64 s'.2.2.holds.a0,.int .i64 s'.2.2.holds.a1,.int .i64 s'.2.2.holds.a2,.int .i64 s'.2.2.holds.a3,.int .i64 s'.2.2.turns.a0,.int .i64 s'.2.2.turns.a1,.int .i64 s'.2.2.turns.a2,.int .i64 s'.2.2.turns.a3,.bool s'.2.2.spares.a0,.bool s'.2.2.spares.a1]:List Value).toArray 105 (0,0)))) b_least (some (.cells ([.int .i64 s'.2.1.number,.int .i64 s'.2.1.sum]:List Value).toArray 107 (0,0)))) b_found (some (.cells ([.bool s'.1]:List Value).toArray 4 (0,0))),hle,⟨rfl,rfl,fun b hb=>?_⟩,⟨XU h9 hle,⟨d0_1,d0_2,d1_2,trivial⟩,⟨Fr.put_X _ _ _,n0⟩,⟨(Fr.put_ne _ _ d0_1.symm).trans (Fr.put_X _ _ _),n1⟩,⟨(Fr.put_ne _ _ d0_2.symm).trans ((Fr.put_ne _ _ d1_2.symm).trans (Fr.put_X _ _ _)),n2⟩,trivial⟩,q0⟩
 have e0:b≠b_found:=fun e=>hb (.inl e)
 have e1:b≠b_least:=fun e=>hb (.inr (.inl e))
 have e2:b≠b_best:=fun e=>hb (.inr (.inr (e)))
 rw [Fr.put_ne _ _ e0,Fr.put_ne _ _ e1,Fr.put_ne _ _ e2,Fr.put_ne _ _ e2,Fr.put_ne _ _ e1,Fr.put_ne _ _ e0]
abbrev Iu:List SC:=[.slice none 0 0,.slice none 0 0,.slice none 0 0]
abbrev Ld (a m l o p:Nat):Bf:=[(a,0),(m,0),(l,0),(o,0),(p,0)]
abbrev Pk (z:Option Addr) (x22:Av) (ac:Nat) (aa:Option Addr) (ad:Nat) (ab:Option Addr) (ae:Nat):List SC:=[.slice z x22.holds.length ac,.slice aa x22.turns.length ad,.slice ab x22.spares.length ae]
abbrev Sh:List SC:=[.int .i64 0,.int .i64 0,.int .i64 0,.int .i64 0,.int .i64 0,.int .i64 0,.int .i64 0,.int .i64 0,.bool false,.bool false]
abbrev F6 (b:Option Addr) (r_:Af) (g:Nat) (d:Option Addr) (j:Nat) (f:Option Addr) (k:Nat):List SC:=[.slice b r_.legs.length g,.int .i64 r_.turn.lo,.int .i64 r_.turn.hi,.slice d r_.buses.length j,.slice f r_.spares.length k,.int .i64 r_.unit,.int .i64 r_.gap,.int .i64 r_.fr,.int .i64 r_.to_]
abbrev Qo (x16:(Bool×BV×Au)):List SC:=[.int .i64 x16.2.2.holds.a0,.int .i64 x16.2.2.holds.a1,.int .i64 x16.2.2.holds.a2,.int .i64 x16.2.2.holds.a3,.int .i64 x16.2.2.turns.a0,.int .i64 x16.2.2.turns.a1,.int .i64 x16.2.2.turns.a2,.int .i64 x16.2.2.turns.a3,.bool x16.2.2.spares.a0,.bool x16.2.2.spares.a1]
abbrev Gy:TM:=[tP 2 1 0,tP 1 0 0]
set_option maxRecDepth 100000 in
set_option maxHeartbeats 4000000 in
theorem Ll (n:Nat) {h:Ae} {w:World} (hh:CG h w) (r_:Af) {cs_r_:List Value} (hx_r_:rep h r_ cs_r_) {r:Av×Int} (H:GY n r_=some r) :
  Calls Tryz.prog 25 #[.agg cs_r_.toArray] w (CH (fun h v=>∃ v0 v1,v=.tuple #[v0,v1]∧(∃ cs,v0=.agg cs.toArray∧rep h r.1 cs)∧(v1=.int .i64 r.2)) h w):=by
 obtain⟨_,_,rfl,⟨b,g,rfl,q⟩,⟨_,_,rfl,⟨_,_,rfl,rfl,rfl⟩,⟨_,_,rfl,⟨d,j,rfl,u⟩,⟨_,_,rfl,⟨f,k,rfl,x⟩,⟨_,_,rfl,rfl,⟨_,_,rfl,rfl,⟨_,_,rfl,rfl,rfl⟩⟩⟩⟩⟩⟩⟩:=hx_r_
 refine enter 23 [.agg (F6 b r_ g d j f k)] Tryz.func25 rfl rfl rfl rfl fun t hk=>?_
 have hm:=Ah.begin h w hh
 unfold GY at H
 refine XT (Aa (wl fun K hK=>?_))
 refine wb (.agg (F6 b r_ g d j f k)) hk hm fun a ci de (bk:Kn 23 [(a,0)] [tP 1 0 0,tA 0 (F6 b r_ g d j f k)] ci) b7=>hK _ _ ?_
 refine wl fun K hK=>?_
 refine wa Iu bk b7 fun m ck dg (bl:Kn 23 [(a,0),(m,0)] [tP 2 1 0,tP 1 0 0,tA 0 (F6 b r_ g d j f k)] ck) aj=>hK _ _ ?_
 refine Rk 2 1 Gy bl aj fun c0 bm=>?_
 refine wf (XT (XT (Aa (Rk 0 1 ((tA 8 (F6 b r_ g d j f k))::Gy) bm aj fun c1 bn=>?_))))
 obtain⟨x9,ex9,H⟩:=Ap H
 refine wl fun K hK=>?_
 refine wc [.agg (F6 b r_ g d j f k)] bn aj (Dv n aj.has r_ ((Ab (Ad q) (Ab (Ab Ac Ac) (Ab (Ad u) (Ab (Ad x) (Ab Ac (Ab Ac (Ab Ac Ac))))))):rep h r_ _) ex9) fun da bc dh a7 ap ah=>?_
 replace q:=q.mono ap
 replace u:=u.mono ap
 replace x:=x.mono ap
 obtain rfl:=a7
 refine⟨.one (.c (.int .i64 x9)),rfl,fun cl (bo:Kn 23 [(a,0),(m,0)] ((tI 9 x9)::(tA 8 (F6 b r_ g d j f k))::Gy) cl)=>hK _ _ ?_⟩
 refine Rk 2 1 ((tI 4 x9)::Gy) bo ah fun c2 bp=>?_
 refine wf (XT (Aa (Rk 0 2 ((tB 11 (x9 != 0))::(tI 4 x9)::Gy) bp ah fun c3 an=>?_)))
 refine wf (wC ((x9 != 0)) an (fun ak=>?_) (fun ak=>?_))
 ·
  rw [ak,XW] at H
  refine XT (Aa (Rk 0 2 [tI 13 x9,tA 12 Iu,tP 2 1 0] an ah fun c4 bq=>?_))
  refine wl fun K hK=>?_
  refine E3 1 0 (.agg Iu) Iu bq ah fun di br ay=>hK _ _ ?_
  refine Rk 3 1 [tI 3 x9,tP 2 1 0] br ay fun c5 bs=>?_
  refine wf (wp_ret ?_)
  obtain rfl:=XZ H
  exact rt (.tup [.agg Iu,.c (.int .i64 x9)]) bs ay ⟨_,_,rfl,⟨_,rfl,((Ab (Ad Az.nil) (Ab (Ad Az.nil) (Ad Az.nil))):rep bc ((Av.mk ([]:List Int) ([]:List Int) ([]:List Bool)):Av) _)⟩,rfl⟩
 ·
  rw [ak,XV] at H
  refine wp_skip (XT (Aa (wl fun K hK=>?_)))
  refine wa Sh an ah fun l a4 dj (bt:Kn 23 [(a,0),(m,0),(l,0)] ((tP 5 2 0)::(tB 11 (x9 != 0))::(tI 4 x9)::Gy) a4) b8=>hK _ _ ?_
  have bu:Kn 23 [(a,0),(m,0),(l,0)] ((tP 5 2 0)::Gy) a4:=bt.kp
  refine wf (XT (Aa (wl fun K hK=>?_)))
  refine wa [.int .i64 0,.int .i64 0] bu b8 fun o cm dk (bv:Kn 23 [(a,0),(m,0),(l,0),(o,0)] ((tP 6 3 0)::(tP 5 2 0)::Gy) cm) b9=>hK _ _ ?_
  refine wf (XT (Aa (wl fun K hK=>?_)))
  refine wa [.bool false] bv b9 fun p cn dl (bw:Kn 23 (Ld a m l o p) ((tP 7 4 0)::(tP 6 3 0)::(tP 5 2 0)::Gy) cn) ca=>hK _ _ ?_
  refine wl fun K hK=>?_
  refine E3 4 0 (.c (.bool false)) [.bool false] bw ca fun cp bx az=>hK _ _ ?_
  refine wf (XT (Aa (Rk 0 1 ((tA 14 (F6 b r_ g d j f k))::(tP 7 4 0)::(tP 6 3 0)::(tP 5 2 0)::Gy) bx az fun c6 bz=>?_)))
  obtain⟨ag,aq,av,ar⟩:=az.settlePlc (i:=0) rfl
  replace q:=q.mono aq
  replace u:=u.mono aq
  replace x:=x.mono aq
  replace ar:Ah ⟨w,h,AB⟩ ag (Ld a m l o p) [⟨F6 b r_ g d j f k,none⟩,⟨Iu,some 50⟩,⟨Sh,some 105⟩,⟨[.int .i64 0,.int .i64 0],some 107⟩,⟨[.bool false],some 4⟩] [] cp:=ar
  have al:Cr ag a (r_:Af):=Cr.of (e:=(Ld a m l o p)) (cs:=(F6 b r_ g d j f k)) ((Ab (Ad q) (Ab (Ab Ac Ac) (Ab (Ad u) (Ab (Ad x) (Ab Ac (Ab Ac (Ab Ac Ac))))))):rep ag (r_:Af) _) rfl av
  have au:A7 ag a [.slice b r_.legs.length g,.int .i64 r_.turn.lo,.int .i64 r_.turn.hi,.slice d r_.buses.length j,.slice f r_.spares.length k,.int .i64 r_.unit,.int .i64 r_.gap,.int .i64 r_.fr,.int .i64 r_.to_]:=A7.of (e:=[(a,0),(m,0),(l,0),(o,0),(p,0)]) (cs:=[.slice b r_.legs.length g,.int .i64 r_.turn.lo,.int .i64 r_.turn.hi,.slice d r_.buses.length j,.slice f r_.spares.length k,.int .i64 r_.unit,.int .i64 r_.gap,.int .i64 r_.fr,.int .i64 r_.to_]) rfl av
  refine Gb 1 #[] #[.pointer (some ⟨p,0,none⟩),.pointer (some ⟨o,0,none⟩),.pointer (some ⟨a,0,none⟩),.pointer (some ⟨l,0,none⟩)] bz rfl rfl (rfl) rfl (by decide) (by rfl) (by rfl) (by rfl) (by rfl) fun co (b0:Kn 23 (Ld a m l o p) ((15,.one (.c (.func (.func 48) #[] #[.pointer (some ⟨p,0,none⟩),.pointer (some ⟨o,0,none⟩),.pointer (some ⟨a,0,none⟩),.pointer (some ⟨l,0,none⟩)])))::(tA 14 (F6 b r_ g d j f k))::(tP 7 4 0)::(tP 6 3 0)::(tP 5 2 0)::Gy) co)=>?_
  obtain⟨x16,ex16,H⟩:=Ap H
  obtain⟨cu,cv,b4,cg⟩:=ar.lend0 [4,3,2] [] (by kernel_rfl) (by kernel_rfl) (by kernel_rfl) (by kernel_rfl)
  obtain⟨cr,b5,a8,bd⟩:=It (false,BV.mk 0 0,(Au.mk (Bo.mk 0 0 0 0) (Bo.mk 0 0 0 0) (Bz.mk false false))) b4
  refine wl fun K hK=>?_
  refine OF [.agg (F6 b r_ g d j f k),.c (.func (.func 48) #[] #[.pointer (some ⟨p,0,none⟩),.pointer (some ⟨o,0,none⟩),.pointer (some ⟨a,0,none⟩),.pointer (some ⟨l,0,none⟩)])] _ b0 rfl rfl (by decide) (by rfl) rfl (fun _ _=>by kernel_rfl) (EL n Jo (fun s y0 y1=>DG n y0 y1 s.1 s.2.1 s.2.2 r_) (Jp n r_ al) r_ ((Ab (Ad q) (Ab (Ab Ac Ac) (Ab (Ad u) (Ab (Ad x) (Ab Ac (Ab Ac (Ab Ac Ac))))))):rep ag r_ _) (false,BV.mk 0 0,(Au.mk (Bo.mk 0 0 0 0) (Bo.mk 0 0 0 0) (Bz.mk false false))) a8 b5 ex16) fun db cq a9=>?_
  obtain⟨rfl,ai,ct,af,ch,ba,cb⟩:=a9
  obtain⟨cc,_⟩:=bd _ _ _ _ af ch ba cb
  have y:=cg _ _ _ [] af rfl (Nat.le_refl _) (by kernel_rfl) cc
  replace q:=q.mono af
  replace u:=u.mono af
  replace x:=x.mono af
  replace al:=al.mono af
  replace au:=au.mono af
  replace y:Ah ⟨w,h,AB⟩ ai (Ld a m l o p) [⟨F6 b r_ g d j f k,none⟩,⟨Iu,some 50⟩,⟨Qo x16,some 105⟩,⟨[.int .i64 x16.2.1.number,.int .i64 x16.2.1.sum],some 107⟩,⟨[.bool x16.1],some 4⟩] [] cq:=y
  refine⟨.tup [],rfl,fun a5 (b1:Kn 23 (Ld a m l o p) ((16,.tup [])::(15,.one (.c (.func (.func 48) #[] #[.pointer (some ⟨p,0,none⟩),.pointer (some ⟨o,0,none⟩),.pointer (some ⟨a,0,none⟩),.pointer (some ⟨l,0,none⟩)])))::(tA 14 (F6 b r_ g d j f k))::(tP 7 4 0)::(tP 6 3 0)::(tP 5 2 0)::Gy) a5)=>hK _ _ ?_⟩
  have b2:Kn 23 (Ld a m l o p) ((tP 7 4 0)::(tP 5 2 0)::Gy) a5:=b1.kp
  refine wf (XT (XT (Aa (Rk 0 2 ((tB 18 (!x16.1))::(tP 5 2 0)::Gy) b2 y fun c7 ao=>?_))))
  refine wf (wC ((!x16.1)) ao (fun am=>?_) (fun am=>?_))
  ·
   rw [am,XW] at H
   refine XT (Aa (Rk 0 1 [tA 19 Iu,tP 2 1 0] ao y fun c8 b3=>?_))
   refine wl fun K hK=>?_
   refine E3 1 0 (.agg Iu) Iu b3 y fun dc be aw=>hK _ _ ?_
   refine Rk 2 1 [tI 3 9,tP 2 1 0] be aw fun cx bf=>?_
   refine wf (wp_ret ?_)
   obtain rfl:=XZ H
   exact rt (.tup [.agg Iu,.c (.int .i64 9)]) bf aw ⟨_,_,rfl,⟨_,rfl,((Ab (Ad Az.nil) (Ab (Ad Az.nil) (Ad Az.nil))):rep ai ((Av.mk ([]:List Int) ([]:List Int) ([]:List Bool)):Av) _)⟩,rfl⟩
  ·
   rw [am,XV] at H
   refine wp_skip (XT (Aa (Rk 0 2 [tA 21 (F6 b r_ g d j f k),tA 20 (Qo x16),tP 2 1 0] ao y fun cy bg=>?_)))
   obtain⟨x22,ex22,H⟩:=Ap H
   refine wl fun K hK=>?_
   refine wc [.agg (Qo x16),.agg (F6 b r_ g d j f k)] bg y (C6 n y.has x16.2.2 ((Ab (Ab Ac (Ab Ac (Ab Ac Ac))) (Ab (Ab Ac (Ab Ac (Ab Ac Ac))) (Ab Bh Bh))):rep ai x16.2.2 _) r_ ((Ab (Ad q) (Ab (Ab Ac Ac) (Ab (Ad u) (Ab (Ad x) (Ab Ac (Ab Ac (Ab Ac Ac))))))):rep ai r_ _) ex22) fun c9 bb dd a6 cw b6=>?_
   obtain⟨_,rfl,⟨_,_,rfl,⟨z,ac,rfl,cd⟩,⟨_,_,rfl,⟨aa,ad,rfl,ce⟩,⟨ab,ae,rfl,cf⟩⟩⟩⟩:=a6
   refine⟨.one (.agg (Pk z x22 ac aa ad ab ae)),rfl,fun cj (bh:Kn 23 (Ld a m l o p) [tA 22 (Pk z x22 ac aa ad ab ae),tA 21 (F6 b r_ g d j f k),tA 20 (Qo x16),tP 2 1 0] cj)=>hK _ _ ?_⟩
   refine wl fun K hK=>?_
   refine E3 1 0 (.agg (Pk z x22 ac aa ad ab ae)) (Pk z x22 ac aa ad ab ae) bh b6 fun df bi ax=>hK _ _ ?_
   refine Rk 4 1 [tI 3 0,tP 2 1 0] bi ax fun cz bj=>?_
   refine wf (wp_ret ?_)
   obtain rfl:=XZ H
   exact rt (.tup [.agg (Pk z x22 ac aa ad ab ae),.c (.int .i64 0)]) bj ax ⟨_,_,rfl,⟨_,rfl,((Ab (Ad cd) (Ab (Ad ce) (Ad cf))):rep bb (x22:Av) _)⟩,rfl⟩
end Go.Proofs.YtokchpjijlebiaaGreat
