/- Each call computes its plain function. -/
import Derived.Test.YtokchpjijlebiaaProg
import Derived.Test.YtokchpjijlebiaaBGP0
import Derived.Test.YtokchpjijlebiaaBGWQ
import Derived.Test.YtokchpjijlebiaaBGWT
import Derived.Test.YtokchpjijlebiaaBGWX
import Derived.Test.YtokchpjijlebiaaBGWY
set_option linter.all false
namespace Go.Proofs.Ytokchpjijlebiaa
open Go Go.RowKit
open Rep (rep)
open KRep (kv)
open VRep (rv)
abbrev Ed (c:Bb):List SC:=[.int .i64 c.number,.int .i64 c.sum]
abbrev KE (least:Bb):List SC:=[.int .i64 least.number,.int .i64 least.sum]
abbrev Dw (b_found b_least b_best b_r_ a f:Nat):Ba:=[(b_found,0),(b_least,0),(b_best,0),(b_r_,0),(a,0),(f,0)]
abbrev Gm (g:Option Addr) (r_:Af) (m:Nat) (k:Option Addr) (p:Nat) (l:Option Addr) (q:Nat):List SC:=[.slice g r_.legs.length m,.int .i64 r_.turn.lo,.int .i64 r_.turn.hi,.slice k r_.buses.length p,.slice l r_.spares.length q,.int .i64 r_.unit,.int .i64 r_.gap,.int .i64 r_.fr,.int .i64 r_.to_]
abbrev CN (d:Ap):List SC:=[.int .i64 d.holds.a0,.int .i64 d.holds.a1,.int .i64 d.holds.a2,.int .i64 d.holds.a3,.int .i64 d.turns.a0,.int .i64 d.turns.a1,.int .i64 d.turns.a2,.int .i64 d.turns.a3,.bool d.spares.a0,.bool d.spares.a1]
abbrev SK (best:Ap):List SC:=[.int .i64 best.holds.a0,.int .i64 best.holds.a1,.int .i64 best.holds.a2,.int .i64 best.holds.a3,.int .i64 best.turns.a0,.int .i64 best.turns.a1,.int .i64 best.turns.a2,.int .i64 best.turns.a3,.bool best.spares.a0,.bool best.spares.a1]
abbrev LX:TM:=[tP 7 5 0,tP 6 4 0,tP 2 0 0,tP 3 1 0,tP 4 3 0,tP 5 2 0]
abbrev PD:TM:=[tP 2 0 0,tP 3 1 0,tP 5 2 0]
abbrev KF:TM:=(tB 9 true)::LX
set_option maxRecDepth 100000 in
set_option maxHeartbeats 4000000 in
theorem LY (n:Nat) {F:Fr} {h:Ae} {w:World} {b_found b_least b_r_ b_best:Nat} (d:Ap) {cs_d:List Value} (hx_d:rep h d cs_d) (c:Bb) {cs_c:List Value} (hx_c:rep h c cs_c) (found:Bool) (least:Bb) (best:Ap) (r_:Af) (hb_r_:CO h b_r_ r_) (hm:Ah F h [(b_found,0),(b_least,0),(b_best,0)] [⟨[.bool found],some 4⟩,⟨[.int .i64 least.number,.int .i64 least.sum],some 104⟩,⟨[.int .i64 best.holds.a0,.int .i64 best.holds.a1,.int .i64 best.holds.a2,.int .i64 best.holds.a3,.int .i64 best.turns.a0,.int .i64 best.turns.a1,.int .i64 best.turns.a2,.int .i64 best.turns.a3,.bool best.spares.a0,.bool best.spares.a1],some 102⟩] [] w) {r:Bool×Bb×Ap} (H:Cg n d c found least best r_=some r) :
  Calls Try.prog 52 #[.agg cs_d.toArray,.agg cs_c.toArray,.pointer (some ⟨b_found,0,none⟩),.pointer (some ⟨b_least,0,none⟩),.pointer (some ⟨b_r_,0,none⟩),.pointer (some ⟨b_best,0,none⟩)] w (RP fun v w'=>∃ (h':Ae),Ae.le h h'∧(v=.tuple #[])∧Ah F h' [(b_found,0),(b_least,0),(b_best,0)] [⟨[.bool r.1],some 4⟩,⟨[.int .i64 r.2.1.number,.int .i64 r.2.1.sum],some 104⟩,⟨[.int .i64 r.2.2.holds.a0,.int .i64 r.2.2.holds.a1,.int .i64 r.2.2.holds.a2,.int .i64 r.2.2.holds.a3,.int .i64 r.2.2.turns.a0,.int .i64 r.2.2.turns.a1,.int .i64 r.2.2.turns.a2,.int .i64 r.2.2.turns.a3,.bool r.2.2.spares.a0,.bool r.2.2.spares.a1],some 102⟩] [] w'):=by
 obtain⟨_,_,rfl,⟨_,_,rfl,rfl,⟨_,_,rfl,rfl,⟨_,_,rfl,rfl,rfl⟩⟩⟩,⟨_,_,rfl,⟨_,_,rfl,rfl,⟨_,_,rfl,rfl,⟨_,_,rfl,rfl,rfl⟩⟩⟩,⟨_,_,rfl,rfl,rfl⟩⟩⟩:=hx_d
 obtain⟨_,_,rfl,rfl,rfl⟩:=hx_c
 obtain⟨_,hx_r_,hc_r_⟩:=id hb_r_
 obtain⟨_,_,rfl,⟨g,m,rfl,ai⟩,⟨_,_,rfl,⟨_,_,rfl,rfl,rfl⟩,⟨_,_,rfl,⟨k,p,rfl,aj⟩,⟨_,_,rfl,⟨l,q,rfl,ak⟩,⟨_,_,rfl,rfl,⟨_,_,rfl,rfl,⟨_,_,rfl,rfl,rfl⟩⟩⟩⟩⟩⟩⟩:=hx_r_
 refine H5 (e:=[(b_found,0),(b_least,0),(b_best,0),(b_r_,0)]) 42 [.agg (CN d),.agg (Ed c),.c (.ptr 0 0),.c (.ptr 1 0),.c (.ptr 3 0),.c (.ptr 2 0)] Try.func52 rfl rfl rfl rfl fun t hk=>?_
 replace hm:=hm.addPlc (o:=0) (cs:=[.slice g r_.legs.length m,.int .i64 r_.turn.lo,.int .i64 r_.turn.hi,.slice k r_.buses.length p,.slice l r_.spares.length q,.int .i64 r_.unit,.int .i64 r_.gap,.int .i64 r_.fr,.int .i64 r_.to_]) (fun j c hj=>by rw [Nat.zero_add]; exact hc_r_ j _ (Al hj)) rfl (by kernel_rfl) (by kernel_rfl)
 replace hm:Ah F h [(b_found,0),(b_least,0),(b_best,0),(b_r_,0)] [⟨[.bool found],some 4⟩,⟨KE least,some 104⟩,⟨SK best,some 102⟩,⟨Gm g r_ m k p l q,none⟩] [] w:=hm
 unfold Cg at H
 refine XT (Aa (wl fun K hK=>?_))
 refine wb (.agg (CN d)) hk hm fun a b9 cc (bd:Kn 42 [(b_found,0),(b_least,0),(b_best,0),(b_r_,0),(a,0)] [tP 6 4 0,tA 0 (CN d),tA 1 (Ed c),tP 2 0 0,tP 3 1 0,tP 4 3 0,tP 5 2 0] b9) (b4:Ah F h [(b_found,0),(b_least,0),(b_best,0),(b_r_,0),(a,0)] [⟨[.bool found],some 4⟩,⟨KE least,some 104⟩,⟨SK best,some 102⟩,⟨Gm g r_ m k p l q,none⟩,⟨CN d,some 102⟩] [] cc)=>hK _ _ ?_
 refine wl fun K hK=>?_
 refine wb (.agg (Ed c)) bd b4 fun f a6 cd (be:Kn 42 (Dw b_found b_least b_best b_r_ a f) [tP 7 5 0,tP 6 4 0,tA 0 (CN d),tA 1 (Ed c),tP 2 0 0,tP 3 1 0,tP 4 3 0,tP 5 2 0] a6) (u:Ah F h (Dw b_found b_least b_best b_r_ a f) [⟨[.bool found],some 4⟩,⟨KE least,some 104⟩,⟨SK best,some 102⟩,⟨Gm g r_ m k p l q,none⟩,⟨CN d,some 102⟩,⟨Ed c,some 104⟩] [] cd)=>hK _ _ ?_
 have bf:Kn 42 (Dw b_found b_least b_best b_r_ a f) LX a6:=be.kp
 refine wf (XT (XT ?_))
 obtain⟨a5,x,H⟩:=Aq H
 refine Av (fun a' w'=>∃ (ar:Array Value)(aa:Ae),a' = ⟨ar,[]⟩∧Kn 42 (Dw b_found b_least b_best b_r_ a f) [tP 7 5 0,tP 6 4 0,tP 2 0 0,tP 3 1 0,tP 4 3 0,tP 5 2 0,tB 34 a5] ar∧Ah F aa (Dw b_found b_least b_best b_r_ a f) [⟨[.bool found],some 4⟩,⟨KE least,some 104⟩,⟨SK best,some 102⟩,⟨Gm g r_ m k p l q,none⟩,⟨CN d,some 102⟩,⟨Ed c,some 104⟩] [] w'∧Ae.le h aa) ?_ ?_
 ·
  refine Aa (Rk 0 2 ((tB 9 found)::LX) bf u fun a7 au=>?_)
  rcases Bool.eq_false_or_eq_true (found) with ad | ad
  ·
   rw [ad,XW] at x
   have bg:Kn 42 (Dw b_found b_least b_best b_r_ a f) KF a7:=(au.setB 9 true (by rfl) ad).kp
   refine Rk 2 4 ((tB 13 ((c.number == least.number) && ((c.sum == least.sum) && true)))::KF) bg u fun a8 av=>?_
   rcases Bool.eq_false_or_eq_true (((c.number == least.number) && ((c.sum == least.sum) && true))) with ae | ae
   ·
    rw [ae,XW] at x
    have bh:Kn 42 (Dw b_found b_least b_best b_r_ a f) ((tB 13 true)::KF) a8:=(av.setB 13 true (by rfl) ae).kp
    refine Rk 6 21 ((tB 34 true)::LX) bh u fun cj bi=>?_
    refine wf ?_
    obtain rfl:=XZ x
    exact XY _ ⟨_,rfl,bi.kp,u,Ae.le_refl _⟩
   ·
    rw [ae,XV] at x
    have bj:Kn 42 (Dw b_found b_least b_best b_r_ a f) ((tB 13 false)::KF) a8:=(av.setB 13 false (by rfl) ae).kp
    refine Rk 6 7 ((tB 20 (decide (c.number>least.number)))::KF) bj u fun a9 aw=>?_
    rcases Bool.eq_false_or_eq_true (decide (c.number>least.number)) with af | af
    ·
     rw [af,XW] at x
     have bk:Kn 42 (Dw b_found b_least b_best b_r_ a f) ((tB 20 true)::KF) a9:=(aw.setB 20 true (by rfl) af).kp
     refine Rk 13 14 ((tB 34 true)::LX) bk u fun ck bl=>?_
     refine wf ?_
     obtain rfl:=XZ x
     exact XY _ ⟨_,rfl,bl.kp,u,Ae.le_refl _⟩
    ·
     rw [af,XV] at x
     have bm:Kn 42 (Dw b_found b_least b_best b_r_ a f) ((tB 20 false)::KF) a9:=(aw.setB 20 false (by rfl) af).kp
     refine Rk 13 6 ((tB 26 (c.number == least.number))::(tB 20 false)::KF) bm u fun ba ax=>?_
     rcases Bool.eq_false_or_eq_true ((c.number == least.number)) with ag | ag
     ·
      rw [ag,XW] at x
      have bn:Kn 42 (Dw b_found b_least b_best b_r_ a f) ((tB 26 true)::(tB 20 false)::KF) ba:=(ax.setB 26 true (by rfl) ag).kp
      refine Rk 19 8 ((tB 34 (decide (c.sum>least.sum)))::LX) bn u fun cl bo=>?_
      refine wf ?_
      obtain rfl:=XZ x
      exact XY _ ⟨_,rfl,bo.kp,u,Ae.le_refl _⟩
     ·
      rw [ag,XV] at x
      have bp:Kn 42 (Dw b_found b_least b_best b_r_ a f) ((tB 26 false)::(tB 20 false)::KF) ba:=(ax.setB 26 false (by rfl) ag).kp
      refine Rk 19 8 ((tB 34 false)::LX) bp u fun cm bq=>?_
      refine wf ?_
      obtain rfl:=XZ x
      exact XY _ ⟨_,rfl,bq.kp,u,Ae.le_refl _⟩
  ·
   rw [ad,XV] at x
   have br:Kn 42 (Dw b_found b_least b_best b_r_ a f) ((tB 9 false)::LX) a7:=(au.setB 9 false (by rfl) ad).kp
   refine Rk 2 25 ((tB 34 false)::LX) br u fun cn bs=>?_
   refine wf ?_
   obtain rfl:=XZ x
   exact XY _ ⟨_,rfl,bs.kp,u,Ae.le_refl _⟩
 ·
  rintro _ cr ⟨ar,aa,rfl,aq,ah,z⟩
  replace ai:=ai.mono z
  replace aj:=aj.mono z
  replace ak:=ak.mono z
  replace hb_r_:=hb_r_.mono z
  refine wC (a5) aq (fun ao=>?_) (fun ao=>?_)
  ·
   rw [ao,XW] at H
   refine wp_ret ?_
   obtain rfl:=XZ H
   exact Uo (.tup []) aq ah (by kernel_rfl) ⟨aa,z,rfl,(ah.cutRw 0).cutPl 3 (by kernel_rfl)⟩
  ·
   rw [ao,XV] at H
   refine wp_skip (XT (Aa (Rk 0 4 ((tI 38 r_.gap)::(tA 36 (CN d))::(tA 35 (Gm g r_ m k p l q))::(tP 7 5 0)::(tP 6 4 0)::PD) aq ah fun co bt=>?_)))
   obtain⟨x39,ex39,H⟩:=Aq H
   refine wl fun K hK=>?_
   refine wc [.agg (Gm g r_ m k p l q),.agg (CN d),.c (.int .i64 r_.gap)] bt ah (I7 n ah.has r_ ((Ab (Ad ai) (Ab (Ab Ac Ac) (Ab (Ad aj) (Ab (Ad ak) (Ab Ac (Ab Ac (Ab Ac Ac))))))):rep aa r_ _) d ((Ab (Ab Ac (Ab Ac (Ab Ac Ac))) (Ab (Ab Ac (Ab Ac (Ab Ac Ac))) (Ab Bo Bo))):rep aa d _) r_.gap ex39) fun cq al ct bc ac y=>?_
   replace ai:=ai.mono ac
   replace aj:=aj.mono ac
   replace ak:=ak.mono ac
   replace hb_r_:=hb_r_.mono ac
   obtain rfl:=bc
   refine⟨.one (.c (.bool x39)),rfl,fun bb (bu:Kn 42 (Dw b_found b_least b_best b_r_ a f) ((tB 39 x39)::(tI 38 r_.gap)::(tA 36 (CN d))::(tA 35 (Gm g r_ m k p l q))::(tP 7 5 0)::(tP 6 4 0)::PD) bb)=>hK _ _ ?_⟩
   have ay:Kn 42 (Dw b_found b_least b_best b_r_ a f) ((tB 39 x39)::(tP 7 5 0)::(tP 6 4 0)::PD) bb:=bu.kp
   refine wf (wC (x39) ay (fun ap=>?_) (fun ap=>?_))
   ·
    rw [ap,XW] at H
    refine An (by kernel_rfl) ?_
    replace y:=y.drew
    refine Ao [1] (Dw b_found b_least b_best b_r_ a f) [⟨[.bool found],some 4⟩,⟨KE least,some 104⟩,⟨[],some 102⟩,⟨Gm g r_ m k p l q,none⟩,⟨CN d,some 102⟩,⟨Ed c,some 104⟩] ?_
    refine II [0] [0] [40,7,2,3,5] ((tA 40 (CN d))::(tP 7 5 0)::PD) (fun _ _ _ _ _ h=>h) ay (AZ.forget [2] y.plOk) (by kernel_rfl) (by rfl) (by kernel_rfl) fun cp az=>?_
    refine Cl (fun W=>∀ a' w',(∃ (an:Array Value)(ab:Ae),a' = ⟨an,[]⟩∧Kn 42 (Dw b_found b_least b_best b_r_ a f) [tA 41 (Ed c),tP 2 0 0,tP 3 1 0] an∧Ah F ab (Dw b_found b_least b_best b_r_ a f) [⟨[.bool found],some 4⟩,⟨KE least,some 104⟩,⟨CN d,some 102⟩,⟨Gm g r_ m k p l q,none⟩,⟨CN d,some 102⟩,⟨Ed c,some 104⟩] [] w'∧Ae.le al ab)→W (Dw b_found b_least b_best b_r_ a f) [⟨[.bool found],some 4⟩,⟨KE least,some 104⟩,⟨[],some 102⟩,⟨Gm g r_ m k p l q,none⟩,⟨CN d,some 102⟩,⟨Ed c,some 104⟩] [1,2,0] a' w') ?_ (fun a4=>?_)
    ·
     rintro _ cu ⟨an,ab,rfl,bv,b5,b3⟩
     refine D8 3 rfl (by kernel_rfl) (by decide) (rfl) (by kernel_rfl) fun K hK=>?_
     refine G2 1 0 (.agg (Ed c)) (Ed c) bv b5 fun ce bw (b6:Ah F ab (Dw b_found b_least b_best b_r_ a f) [⟨[.bool found],some 4⟩,⟨Ed c,some 104⟩,⟨CN d,some 102⟩,⟨Gm g r_ m k p l q,none⟩,⟨CN d,some 102⟩,⟨Ed c,some 104⟩] [] ce)=>hK _ _ ?_
     refine Ao [1] (Dw b_found b_least b_best b_r_ a f) [⟨[.bool found],some 4⟩,⟨Ed c,some 104⟩,⟨[],some 102⟩,⟨Gm g r_ m k p l q,none⟩,⟨CN d,some 102⟩,⟨Ed c,some 104⟩] ?_
     refine D8 4 rfl (by kernel_rfl) (by decide) (rfl) (by kernel_rfl) fun K hK=>?_
     refine G2 0 0 (.c (.bool true)) [.bool true] bw b6 fun cf bx (b7:Ah F ab (Dw b_found b_least b_best b_r_ a f) [⟨[.bool true],some 4⟩,⟨Ed c,some 104⟩,⟨CN d,some 102⟩,⟨Gm g r_ m k p l q,none⟩,⟨CN d,some 102⟩,⟨Ed c,some 104⟩] [] cf)=>hK _ _ ?_
     refine Ao [1] (Dw b_found b_least b_best b_r_ a f) [⟨[.bool true],some 4⟩,⟨Ed c,some 104⟩,⟨[],some 102⟩,⟨Gm g r_ m k p l q,none⟩,⟨CN d,some 102⟩,⟨Ed c,some 104⟩] ?_
     have ci:Kn 42 (Dw b_found b_least b_best b_r_ a f) [] an:=bx.kp
     refine Ay (by kernel_rfl) ?_
     obtain rfl:=XZ H
     exact GC rfl ⟨ab,XU z (XU ac b3),rfl,(b7.cutRw 0).cutPl 3 (by kernel_rfl)⟩
    refine HT 1 2 rfl rfl (by kernel_rfl) (by decide) (rfl) (rfl) (fun K hK=>?_) (fun K hK=>?_)
    ·
     refine BL az (AZ.forget [2] y.plOk) rfl (by decide) (by kernel_rfl) fun ca (bz:Kn 42 (Dw b_found b_least b_best b_r_ a f) ((tA 41 (Ed c))::(tA 40 (CN d))::(tP 7 5 0)::PD) ca)=>hK _ _ (AZ.forget [2] y.plOk) ?_
     refine D8 2 rfl (by kernel_rfl) (by decide) (rfl) (by kernel_rfl) fun K hK=>?_
     refine G2 2 0 (.agg (CN d)) (CN d) bz y fun cg b0 (b8:Ah F al (Dw b_found b_least b_best b_r_ a f) [⟨[.bool found],some 4⟩,⟨KE least,some 104⟩,⟨CN d,some 102⟩,⟨Gm g r_ m k p l q,none⟩,⟨CN d,some 102⟩,⟨Ed c,some 104⟩] [] cg)=>hK _ _ ?_
     refine Ao [1] (Dw b_found b_least b_best b_r_ a f) [⟨[.bool found],some 4⟩,⟨KE least,some 104⟩,⟨[],some 102⟩,⟨Gm g r_ m k p l q,none⟩,⟨CN d,some 102⟩,⟨Ed c,some 104⟩] ?_
     refine Bq [1,2,0] (by kernel_rfl) (by rfl) (a4 _ _ ?_)
     exact XY _ ⟨_,rfl,b0.kp,b8,Ae.le_refl _⟩
    ·
     refine G2 2 0 (.agg (CN d)) (CN d) az y fun ch b1 (am:Ah F al (Dw b_found b_least b_best b_r_ a f) [⟨[.bool found],some 4⟩,⟨KE least,some 104⟩,⟨CN d,some 102⟩,⟨Gm g r_ m k p l q,none⟩,⟨CN d,some 102⟩,⟨Ed c,some 104⟩] [] ch)=>hK _ _ (AZ.forget [2] am.plOk) ?_
     refine Dl 1 fun K hK=>?_
     refine BL b1 (AZ.forget [2] am.plOk) rfl (by decide) (by kernel_rfl) fun cb (b2:Kn 42 (Dw b_found b_least b_best b_r_ a f) ((tA 41 (Ed c))::(tA 40 (CN d))::(tP 7 5 0)::PD) cb)=>hK _ _ (AZ.forget [2] am.plOk) ?_
     refine Bq [1,2,0] (by kernel_rfl) (by rfl) (a4 _ _ ?_)
     exact XY _ ⟨_,rfl,b2.kp,am,Ae.le_refl _⟩
   ·
    rw [ap,XV] at H
    refine wp_skip ?_
    obtain rfl:=XZ H
    exact GC rfl ⟨al,XU z ac,rfl,(y.cutRw 0).cutPl 3 (by kernel_rfl)⟩
theorem KX {h0:Ae} {b_found b_least b_best:Nat}:U1 (Ei h0 b_found b_least b_best) (FO b_found b_least b_best):=by
 refine⟨fun s F F' h h' hs hle hX hh=>?_,fun s F h hs b hb=>?_⟩
 ·
  obtain⟨h9,⟨d0_1,d0_2,d1_2,_⟩,⟨f0,n0⟩,⟨f1,n1⟩,⟨f2,n2⟩,_⟩:=hs
  exact⟨XU h9 hle,⟨d0_1,d0_2,d1_2,trivial⟩,⟨(hX _ (.inl rfl)).trans f0,fun o=>Nk (hh _ (.inl rfl) o) (n0 o)⟩,⟨(hX _ (.inr (.inl rfl))).trans f1,fun o=>Nk (hh _ (.inr (.inl rfl)) o) (n1 o)⟩,⟨(hX _ (.inr (.inr (rfl)))).trans f2,fun o=>Nk (hh _ (.inr (.inr (rfl))) o) (n2 o)⟩,trivial⟩
 ·
  obtain⟨h9,⟨d0_1,d0_2,d1_2,_⟩,⟨f0,n0⟩,⟨f1,n1⟩,⟨f2,n2⟩,_⟩:=hs
  rcases hb with rfl | rfl | rfl
  ·
   rw [f0]; rfl
  ·
   rw [f1]; rfl
  ·
   rw [f2]; rfl
theorem JW {fw:World} {h:Ae} {Y:Nat→Option Obj} {w:World} {b_found b_least b_best:Nat} (s:Bool×Bb×Ap) (hl:Ah ⟨fw,h,Y⟩ h [(b_found,0),(b_least,0),(b_best,0)] [⟨[.bool s.1],some 4⟩,⟨[.int .i64 s.2.1.number,.int .i64 s.2.1.sum],some 104⟩,⟨[.int .i64 s.2.2.holds.a0,.int .i64 s.2.2.holds.a1,.int .i64 s.2.2.holds.a2,.int .i64 s.2.2.holds.a3,.int .i64 s.2.2.turns.a0,.int .i64 s.2.2.turns.a1,.int .i64 s.2.2.turns.a2,.int .i64 s.2.2.turns.a3,.bool s.2.2.spares.a0,.bool s.2.2.spares.a1],some 102⟩] [] w) :
  ∃ F1:Fr,Ah F1 h [] [] [] w∧Ei h b_found b_least b_best s F1 h∧∀ (G:Fr)(h':Ae)(w':World)(s':Bool×Bb×Ap),Ae.le h h'→Fr.Sim (FO b_found b_least b_best) F1 G→Ei h b_found b_least b_best s' G h'→Ah G h' [] [] [] w' →
   Ah ⟨fw,h,Y⟩ h' [(b_found,0),(b_least,0),(b_best,0)] [⟨[.bool s'.1],some 4⟩,⟨[.int .i64 s'.2.1.number,.int .i64 s'.2.1.sum],some 104⟩,⟨[.int .i64 s'.2.2.holds.a0,.int .i64 s'.2.2.holds.a1,.int .i64 s'.2.2.holds.a2,.int .i64 s'.2.2.holds.a3,.int .i64 s'.2.2.turns.a0,.int .i64 s'.2.2.turns.a1,.int .i64 s'.2.2.turns.a2,.int .i64 s'.2.2.turns.a3,.bool s'.2.2.spares.a0,.bool s'.2.2.spares.a1],some 102⟩] [] w'∧True:=by
 have d0_1:b_found≠b_least:=hl.blk_ne (i:=0) (j:=1) rfl rfl rfl rfl (by decide)
 have d0_2:b_found≠b_best:=hl.blk_ne (i:=0) (j:=2) rfl rfl rfl rfl (by decide)
 have d1_2:b_least≠b_best:=hl.blk_ne (i:=1) (j:=2) rfl rfl rfl rfl (by decide)
 have px0:Y b_found=none:=hl.placeX (i:=0) rfl rfl
 have px1:Y b_least=none:=hl.placeX (i:=1) rfl rfl
 have px2:Y b_best=none:=hl.placeX (i:=2) rfl rfl
 obtain⟨q2,n2⟩:=Ah.hide (e:=[(b_found,0),(b_least,0)]) (pl:=[⟨[.bool s.1],some 4⟩,⟨[.int .i64 s.2.1.number,.int .i64 s.2.1.sum],some 104⟩]) (b:=b_best) (T:=102) (cs:=[.int .i64 s.2.2.holds.a0,.int .i64 s.2.2.holds.a1,.int .i64 s.2.2.holds.a2,.int .i64 s.2.2.holds.a3,.int .i64 s.2.2.turns.a0,.int .i64 s.2.2.turns.a1,.int .i64 s.2.2.turns.a2,.int .i64 s.2.2.turns.a3,.bool s.2.2.spares.a0,.bool s.2.2.spares.a1]) ([.int .i64 s.2.2.holds.a0,.int .i64 s.2.2.holds.a1,.int .i64 s.2.2.holds.a2,.int .i64 s.2.2.holds.a3,.int .i64 s.2.2.turns.a0,.int .i64 s.2.2.turns.a1,.int .i64 s.2.2.turns.a2,.int .i64 s.2.2.turns.a3,.bool s.2.2.spares.a0,.bool s.2.2.spares.a1]:List Value) hl rfl (by kernel_rfl) rfl
 obtain⟨q1,n1⟩:=Ah.hide (e:=[(b_found,0)]) (pl:=[⟨[.bool s.1],some 4⟩]) (b:=b_least) (T:=104) (cs:=[.int .i64 s.2.1.number,.int .i64 s.2.1.sum]) ([.int .i64 s.2.1.number,.int .i64 s.2.1.sum]:List Value) q2 rfl (by kernel_rfl) rfl
 obtain⟨q0,n0⟩:=Ah.hide (e:=[]) (pl:=[]) (b:=b_found) (T:=4) (cs:=[.bool s.1]) ([.bool s.1]:List Value) q1 rfl (by kernel_rfl) rfl
 refine⟨_,q0,⟨Ae.le_refl _,⟨d0_1,d0_2,d1_2,trivial⟩,⟨Fr.put_X _ _ _,n0⟩,⟨(Fr.put_ne _ _ d0_1.symm).trans (Fr.put_X _ _ _),n1⟩,⟨(Fr.put_ne _ _ d0_2.symm).trans ((Fr.put_ne _ _ d1_2.symm).trans (Fr.put_X _ _ _)),n2⟩,trivial⟩,fun G h' w' s' hle hsim hs' hm'=>?_⟩
 obtain⟨h9,_,⟨f0,g0⟩,⟨f1,g1⟩,⟨f2,g2⟩,_⟩:=hs'
 have u0:=Ah.unhide (e:=[]) (pl:=[]) (b:=b_found) (T:=4) (cs:=[.bool s'.1]) ([.bool s'.1]:List Value) hm' f0 g0 rfl (by kernel_rfl) (by kernel_rfl) rfl
 have u1:=Ah.unhide (e:=[(b_found,0)]) (pl:=[⟨[.bool s'.1],some 4⟩]) (b:=b_least) (T:=104) (cs:=[.int .i64 s'.2.1.number,.int .i64 s'.2.1.sum]) ([.int .i64 s'.2.1.number,.int .i64 s'.2.1.sum]:List Value) u0 ((Fr.put_ne _ _ d0_1.symm).trans f1) g1 rfl (by kernel_rfl) (by kernel_rfl) rfl
 have u2:=Ah.unhide (e:=[(b_found,0),(b_least,0)]) (pl:=[⟨[.bool s'.1],some 4⟩,⟨[.int .i64 s'.2.1.number,.int .i64 s'.2.1.sum],some 104⟩]) (b:=b_best) (T:=102) (cs:=[.int .i64 s'.2.2.holds.a0,.int .i64 s'.2.2.holds.a1,.int .i64 s'.2.2.holds.a2,.int .i64 s'.2.2.holds.a3,.int .i64 s'.2.2.turns.a0,.int .i64 s'.2.2.turns.a1,.int .i64 s'.2.2.turns.a2,.int .i64 s'.2.2.turns.a3,.bool s'.2.2.spares.a0,.bool s'.2.2.spares.a1]) ([.int .i64 s'.2.2.holds.a0,.int .i64 s'.2.2.holds.a1,.int .i64 s'.2.2.holds.a2,.int .i64 s'.2.2.holds.a3,.int .i64 s'.2.2.turns.a0,.int .i64 s'.2.2.turns.a1,.int .i64 s'.2.2.turns.a2,.int .i64 s'.2.2.turns.a3,.bool s'.2.2.spares.a0,.bool s'.2.2.spares.a1]:List Value) u1 ((Fr.put_ne _ _ d1_2.symm).trans ((Fr.put_ne _ _ d0_2.symm).trans f2)) g2 rfl (by kernel_rfl) (by kernel_rfl) rfl
 have hF:Fr.put (Fr.put (Fr.put G b_found none) b_least none) b_best none=⟨fw,h,Y⟩:=by
  refine Fr.eqOf hsim.w hsim.h fun b=>?_
  by_cases e2:b=b_best
  ·
   subst e2; rw [Fr.put_X]; exact px2.symm
  rw [Fr.put_ne _ _ e2]
  by_cases e1:b=b_least
  ·
   subst e1; rw [Fr.put_X]; exact px1.symm
  rw [Fr.put_ne _ _ e1]
  by_cases e0:b=b_found
  ·
   subst e0; rw [Fr.put_X]; exact px0.symm
  rw [Fr.put_ne _ _ e0]
  refine(hsim.X b (fun hb=>by rcases hb with hb | hb | hb <;> contradiction)).trans ?_
  rw [Fr.put_ne _ _ e0,Fr.put_ne _ _ e1,Fr.put_ne _ _ e2]
 rw [hF] at u2
 exact⟨u2,trivial⟩
theorem KY (n:Nat) {h0:Ae} {b_found b_least b_best:Nat} {b_r_:Nat} (r_:Af) (hb_r_:CO h0 b_r_ r_):Tt (Ei h0 b_found b_least b_best) (FO b_found b_least b_best) (.func (.func 52) #[] #[.pointer (some ⟨b_found,0,none⟩),.pointer (some ⟨b_least,0,none⟩),.pointer (some ⟨b_r_,0,none⟩),.pointer (some ⟨b_best,0,none⟩)]) (fun s x0 x1=>Cg n x0 x1 s.1 s.2.1 s.2.2 r_):=by
 intro s F h w x0 cs0 hx0 x1 cs1 hx1 s' hs hm H
 obtain⟨h9,⟨d0_1,d0_2,d1_2,_⟩,⟨f0,n0⟩,⟨f1,n1⟩,⟨f2,n2⟩,_⟩:=hs
 have u0:=Ah.unhide (e:=[]) (pl:=[]) (b:=b_found) (T:=4) (cs:=[.bool s.1]) ([.bool s.1]:List Value) hm f0 n0 rfl (by kernel_rfl) (by kernel_rfl) rfl
 have u1:=Ah.unhide (e:=[(b_found,0)]) (pl:=[⟨[.bool s.1],some 4⟩]) (b:=b_least) (T:=104) (cs:=[.int .i64 s.2.1.number,.int .i64 s.2.1.sum]) ([.int .i64 s.2.1.number,.int .i64 s.2.1.sum]:List Value) u0 ((Fr.put_ne _ _ d0_1.symm).trans f1) n1 rfl (by kernel_rfl) (by kernel_rfl) rfl
 have u2:=Ah.unhide (e:=[(b_found,0),(b_least,0)]) (pl:=[⟨[.bool s.1],some 4⟩,⟨[.int .i64 s.2.1.number,.int .i64 s.2.1.sum],some 104⟩]) (b:=b_best) (T:=102) (cs:=[.int .i64 s.2.2.holds.a0,.int .i64 s.2.2.holds.a1,.int .i64 s.2.2.holds.a2,.int .i64 s.2.2.holds.a3,.int .i64 s.2.2.turns.a0,.int .i64 s.2.2.turns.a1,.int .i64 s.2.2.turns.a2,.int .i64 s.2.2.turns.a3,.bool s.2.2.spares.a0,.bool s.2.2.spares.a1]) ([.int .i64 s.2.2.holds.a0,.int .i64 s.2.2.holds.a1,.int .i64 s.2.2.holds.a2,.int .i64 s.2.2.holds.a3,.int .i64 s.2.2.turns.a0,.int .i64 s.2.2.turns.a1,.int .i64 s.2.2.turns.a2,.int .i64 s.2.2.turns.a3,.bool s.2.2.spares.a0,.bool s.2.2.spares.a1]:List Value) u1 ((Fr.put_ne _ _ d1_2.symm).trans ((Fr.put_ne _ _ d0_2.symm).trans f2)) n2 rfl (by kernel_rfl) (by kernel_rfl) rfl
 refine⟨52,_,_,rfl,fun _ _=>by kernel_rfl,Calls.mono (LY n x0 hx0 x1 hx1 s.1 s.2.1 s.2.2 r_ (hb_r_.mono h9) u2 H) ?_⟩
 rintro en w' ⟨v,rfl,h2,hle,rfl,m2⟩
 obtain⟨q2,_⟩:=Ah.hide (e:=[(b_found,0),(b_least,0)]) (pl:=[⟨[.bool s'.1],some 4⟩,⟨[.int .i64 s'.2.1.number,.int .i64 s'.2.1.sum],some 104⟩]) (b:=b_best) (T:=102) (cs:=[.int .i64 s'.2.2.holds.a0,.int .i64 s'.2.2.holds.a1,.int .i64 s'.2.2.holds.a2,.int .i64 s'.2.2.holds.a3,.int .i64 s'.2.2.turns.a0,.int .i64 s'.2.2.turns.a1,.int .i64 s'.2.2.turns.a2,.int .i64 s'.2.2.turns.a3,.bool s'.2.2.spares.a0,.bool s'.2.2.spares.a1]) ([.int .i64 s'.2.2.holds.a0,.int .i64 s'.2.2.holds.a1,.int .i64 s'.2.2.holds.a2,.int .i64 s'.2.2.holds.a3,.int .i64 s'.2.2.turns.a0,.int .i64 s'.2.2.turns.a1,.int .i64 s'.2.2.turns.a2,.int .i64 s'.2.2.turns.a3,.bool s'.2.2.spares.a0,.bool s'.2.2.spares.a1]:List Value) m2 rfl (by kernel_rfl) rfl
 obtain⟨q1,_⟩:=Ah.hide (e:=[(b_found,0)]) (pl:=[⟨[.bool s'.1],some 4⟩]) (b:=b_least) (T:=104) (cs:=[.int .i64 s'.2.1.number,.int .i64 s'.2.1.sum]) ([.int .i64 s'.2.1.number,.int .i64 s'.2.1.sum]:List Value) q2 rfl (by kernel_rfl) rfl
 obtain⟨q0,_⟩:=Ah.hide (e:=[]) (pl:=[]) (b:=b_found) (T:=4) (cs:=[.bool s'.1]) ([.bool s'.1]:List Value) q1 rfl (by kernel_rfl) rfl
 refine⟨_,rfl,rfl,h2,Fr.put (Fr.put (Fr.put (Fr.put (Fr.put (Fr.put F b_found none) b_least none) b_best none) b_best (some (.cells ([.int .i64 s'.2.2.holds.a0,.int .i64 s'.2.2.holds.a1,.int .i64 s'.2.2.holds.a2,.int .i64 s'.2.2.holds.a3,.int .i64 s'.2.2.turns.a0,.int .i64 s'.2.2.turns.a1,.int .i64 s'.2.2.turns.a2,.int .i64 s'.2.2.turns.a3,.bool s'.2.2.spares.a0,.bool s'.2.2.spares.a1]:List Value).toArray 102 (0,0)))) b_least (some (.cells ([.int .i64 s'.2.1.number,.int .i64 s'.2.1.sum]:List Value).toArray 104 (0,0)))) b_found (some (.cells ([.bool s'.1]:List Value).toArray 4 (0,0))),hle,⟨rfl,rfl,fun b hb=>?_⟩,⟨XU h9 hle,⟨d0_1,d0_2,d1_2,trivial⟩,⟨Fr.put_X _ _ _,n0⟩,⟨(Fr.put_ne _ _ d0_1.symm).trans (Fr.put_X _ _ _),n1⟩,⟨(Fr.put_ne _ _ d0_2.symm).trans ((Fr.put_ne _ _ d1_2.symm).trans (Fr.put_X _ _ _)),n2⟩,trivial⟩,q0⟩
 have e0:b≠b_found:=fun e=>hb (.inl e)
 have e1:b≠b_least:=fun e=>hb (.inr (.inl e))
 have e2:b≠b_best:=fun e=>hb (.inr (.inr (e)))
 rw [Fr.put_ne _ _ e0,Fr.put_ne _ _ e1,Fr.put_ne _ _ e2,Fr.put_ne _ _ e2,Fr.put_ne _ _ e1,Fr.put_ne _ _ e0]
abbrev FJ:List SC:=[.slice none 0 0,.slice none 0 0,.slice none 0 0]
abbrev IV (a l m o p:Nat):Ba:=[(a,0),(l,0),(m,0),(o,0),(p,0)]
abbrev PE (y:Option Addr) (x22:Am) (ab:Nat) (z:Option Addr) (ac:Nat) (aa:Option Addr) (ad:Nat):List SC:=[.slice y x22.holds.length ab,.slice z x22.turns.length ac,.slice aa x22.spares.length ad]
abbrev PF:List SC:=[.int .i64 0,.int .i64 0,.int .i64 0,.int .i64 0,.int .i64 0,.int .i64 0,.int .i64 0,.int .i64 0,.bool false,.bool false]
abbrev DK (b:Option Addr) (r_:Af) (g:Nat) (d:Option Addr) (j:Nat) (f:Option Addr) (k:Nat):List SC:=[.slice b r_.legs.length g,.int .i64 r_.turn.lo,.int .i64 r_.turn.hi,.slice d r_.buses.length j,.slice f r_.spares.length k,.int .i64 r_.unit,.int .i64 r_.gap,.int .i64 r_.fr,.int .i64 r_.to_]
abbrev PG (x16:(Bool×Bb×Ap)):List SC:=[.int .i64 x16.2.2.holds.a0,.int .i64 x16.2.2.holds.a1,.int .i64 x16.2.2.holds.a2,.int .i64 x16.2.2.holds.a3,.int .i64 x16.2.2.turns.a0,.int .i64 x16.2.2.turns.a1,.int .i64 x16.2.2.turns.a2,.int .i64 x16.2.2.turns.a3,.bool x16.2.2.spares.a0,.bool x16.2.2.spares.a1]
abbrev Hx:TM:=[tP 2 1 0,tP 1 0 0]
set_option maxRecDepth 100000 in
set_option maxHeartbeats 4000000 in
theorem IW (n:Nat) {h:Ae} {w:World} (hh:Dn h w) (r_:Af) {cs_r_:List Value} (hx_r_:rep h r_ cs_r_) {r:Am×Int} (H:CD n r_=some r) :
  Calls Try.prog 14 #[.agg cs_r_.toArray] w (Dp (fun h v=>∃ v0 v1,v=.tuple #[v0,v1]∧(∃ cs,v0=.agg cs.toArray∧rep h r.1 cs)∧(v1=.int .i64 r.2)) h w):=by
 obtain⟨_,_,rfl,⟨b,g,rfl,q⟩,⟨_,_,rfl,⟨_,_,rfl,rfl,rfl⟩,⟨_,_,rfl,⟨d,j,rfl,u⟩,⟨_,_,rfl,⟨f,k,rfl,x⟩,⟨_,_,rfl,rfl,⟨_,_,rfl,rfl,⟨_,_,rfl,rfl,rfl⟩⟩⟩⟩⟩⟩⟩:=hx_r_
 refine enter 23 [.agg (DK b r_ g d j f k)] Try.func14 rfl rfl rfl rfl fun t hk=>?_
 have hm:=Ah.begin h w hh
 unfold CD at H
 refine XT (Aa (wl fun K hK=>?_))
 refine wb (.agg (DK b r_ g d j f k)) hk hm fun a cj cr (bl:Kn 23 [(a,0)] [tP 1 0 0,tA 0 (DK b r_ g d j f k)] cj) (b8:Ah ⟨w,h,Aj⟩ h [(a,0)] [⟨DK b r_ g d j f k,some 43⟩] [] cr)=>hK _ _ ?_
 refine wl fun K hK=>?_
 refine wa FJ bl b8 fun l cl cu (bm:Kn 23 [(a,0),(l,0)] [tP 2 1 0,tP 1 0 0,tA 0 (DK b r_ g d j f k)] cl) (ak:Ah ⟨w,h,Aj⟩ h [(a,0),(l,0)] [⟨DK b r_ g d j f k,some 43⟩,⟨FJ,some 34⟩] [] cu)=>hK _ _ ?_
 refine Rk 2 1 Hx bm ak fun c8 bn=>?_
 refine wf (XT (XT (Aa (Rk 0 1 ((tA 8 (DK b r_ g d j f k))::Hx) bn ak fun c9 bo=>?_))))
 obtain⟨x9,ex9,H⟩:=Aq H
 refine wl fun K hK=>?_
 refine wc [.agg (DK b r_ g d j f k)] bo ak (Ea n ak.has r_ ((Ab (Ad q) (Ab (Ab Ac Ac) (Ab (Ad u) (Ab (Ad x) (Ab Ac (Ab Ac (Ab Ac Ac))))))):rep h r_ _) ex9) fun di ag dl ba aq aj=>?_
 replace q:=q.mono aq
 replace u:=u.mono aq
 replace x:=x.mono aq
 obtain rfl:=ba
 refine⟨.one (.c (.int .i64 x9)),rfl,fun cm (bp:Kn 23 [(a,0),(l,0)] ((tI 9 x9)::(tA 8 (DK b r_ g d j f k))::Hx) cm)=>hK _ _ ?_⟩
 refine Rk 2 1 ((tI 4 x9)::Hx) bp aj fun da bq=>?_
 refine wf (XT (Aa (Rk 0 2 ((tB 11 (x9 != 0))::(tI 4 x9)::Hx) bq aj fun db ao=>?_)))
 refine wf (wC ((x9 != 0)) ao (fun al=>?_) (fun al=>?_))
 ·
  rw [al,XW] at H
  refine XT (Aa (Rk 0 2 [tI 13 x9,tA 12 FJ,tP 2 1 0] ao aj fun dc br=>?_))
  refine wl fun K hK=>?_
  refine G2 1 0 (.agg FJ) FJ br aj fun cv bs (a4:Ah ⟨w,h,Aj⟩ ag [(a,0),(l,0)] [⟨DK b r_ g d j f k,some 43⟩,⟨FJ,some 34⟩] [] cv)=>hK _ _ ?_
  refine Rk 3 1 [tI 3 x9,tP 2 1 0] bs a4 fun dd bt=>?_
  refine wf (wp_ret ?_)
  obtain rfl:=XZ H
  exact rt (.tup [.agg FJ,.c (.int .i64 x9)]) bt a4 ⟨_,_,rfl,⟨_,rfl,((Ab (Ad A6.nil) (Ab (Ad A6.nil) (Ad A6.nil))):rep ag ((Am.mk ([]:List Int) ([]:List Int) ([]:List Bool)):Am) _)⟩,rfl⟩
 ·
  rw [al,XV] at H
  refine wp_skip (XT (Aa (wl fun K hK=>?_)))
  refine wa PF ao aj fun m a6 cw (bu:Kn 23 [(a,0),(l,0),(m,0)] ((tP 5 2 0)::(tB 11 (x9 != 0))::(tI 4 x9)::Hx) a6) (b9:Ah ⟨w,h,Aj⟩ ag [(a,0),(l,0),(m,0)] [⟨DK b r_ g d j f k,some 43⟩,⟨FJ,some 34⟩,⟨PF,some 102⟩] [] cw)=>hK _ _ ?_
  have bv:Kn 23 [(a,0),(l,0),(m,0)] ((tP 5 2 0)::Hx) a6:=bu.kp
  refine wf (XT (Aa (wl fun K hK=>?_)))
  refine wa [.int .i64 0,.int .i64 0] bv b9 fun o cn cx (bw:Kn 23 [(a,0),(l,0),(m,0),(o,0)] ((tP 6 3 0)::(tP 5 2 0)::Hx) cn) (ca:Ah ⟨w,h,Aj⟩ ag [(a,0),(l,0),(m,0),(o,0)] [⟨DK b r_ g d j f k,some 43⟩,⟨FJ,some 34⟩,⟨PF,some 102⟩,⟨[.int .i64 0,.int .i64 0],some 104⟩] [] cx)=>hK _ _ ?_
  refine wf (XT (Aa (wl fun K hK=>?_)))
  refine wa [.bool false] bw ca fun p co cy (bx:Kn 23 (IV a l m o p) ((tP 7 4 0)::(tP 6 3 0)::(tP 5 2 0)::Hx) co) (cb:Ah ⟨w,h,Aj⟩ ag (IV a l m o p) [⟨DK b r_ g d j f k,some 43⟩,⟨FJ,some 34⟩,⟨PF,some 102⟩,⟨[.int .i64 0,.int .i64 0],some 104⟩,⟨[.bool false],some 4⟩] [] cy)=>hK _ _ ?_
  refine wl fun K hK=>?_
  refine G2 4 0 (.c (.bool false)) [.bool false] bx cb fun a8 bz (a5:Ah ⟨w,h,Aj⟩ ag (IV a l m o p) [⟨DK b r_ g d j f k,some 43⟩,⟨FJ,some 34⟩,⟨PF,some 102⟩,⟨[.int .i64 0,.int .i64 0],some 104⟩,⟨[.bool false],some 4⟩] [] a8)=>hK _ _ ?_
  refine wf (XT (Aa (Rk 0 1 ((tA 14 (DK b r_ g d j f k))::(tP 7 4 0)::(tP 6 3 0)::(tP 5 2 0)::Hx) bz a5 fun de b0=>?_)))
  obtain⟨ah,ar,ax,au⟩:=a5.settlePlc (i:=0) rfl
  replace q:=q.mono ar
  replace u:=u.mono ar
  replace x:=x.mono ar
  replace au:Ah ⟨w,h,Aj⟩ ah (IV a l m o p) [⟨DK b r_ g d j f k,none⟩,⟨FJ,some 34⟩,⟨PF,some 102⟩,⟨[.int .i64 0,.int .i64 0],some 104⟩,⟨[.bool false],some 4⟩] [] a8:=au
  have am:CO ah a (r_:Af):=CO.of (e:=(IV a l m o p)) (cs:=(DK b r_ g d j f k)) ((Ab (Ad q) (Ab (Ab Ac Ac) (Ab (Ad u) (Ab (Ad x) (Ab Ac (Ab Ac (Ab Ac Ac))))))):rep ah (r_:Af) _) rfl ax
  have aw:AD ah a [.slice b r_.legs.length g,.int .i64 r_.turn.lo,.int .i64 r_.turn.hi,.slice d r_.buses.length j,.slice f r_.spares.length k,.int .i64 r_.unit,.int .i64 r_.gap,.int .i64 r_.fr,.int .i64 r_.to_]:=AD.of (e:=[(a,0),(l,0),(m,0),(o,0),(p,0)]) (cs:=[.slice b r_.legs.length g,.int .i64 r_.turn.lo,.int .i64 r_.turn.hi,.slice d r_.buses.length j,.slice f r_.spares.length k,.int .i64 r_.unit,.int .i64 r_.gap,.int .i64 r_.fr,.int .i64 r_.to_]) rfl ax
  refine H6 1 #[] #[.pointer (some ⟨p,0,none⟩),.pointer (some ⟨o,0,none⟩),.pointer (some ⟨a,0,none⟩),.pointer (some ⟨m,0,none⟩)] b0 rfl rfl (rfl) rfl (by decide) (by rfl) (by rfl) (by rfl) (by rfl) fun cp (b1:Kn 23 (IV a l m o p) ((15,.one (.c (.func (.func 52) #[] #[.pointer (some ⟨p,0,none⟩),.pointer (some ⟨o,0,none⟩),.pointer (some ⟨a,0,none⟩),.pointer (some ⟨m,0,none⟩)])))::(tA 14 (DK b r_ g d j f k))::(tP 7 4 0)::(tP 6 3 0)::(tP 5 2 0)::Hx) cp)=>?_
  obtain⟨x16,ex16,H⟩:=Aq H
  obtain⟨c2,c3,b5,ch⟩:=au.lend0 [4,3,2] [] (by kernel_rfl) (by kernel_rfl) (by kernel_rfl) (by kernel_rfl)
  obtain⟨c0,b6,bb,be⟩:=JW (false,Bb.mk 0 0,(Ap.mk (AI.mk 0 0 0 0) (AI.mk 0 0 0 0) (AT.mk false false))) b5
  refine wl fun K hK=>?_
  refine QT [.agg (DK b r_ g d j f k),.c (.func (.func 52) #[] #[.pointer (some ⟨p,0,none⟩),.pointer (some ⟨o,0,none⟩),.pointer (some ⟨a,0,none⟩),.pointer (some ⟨m,0,none⟩)])] _ b1 rfl rfl (by decide) (by rfl) rfl (fun _ _=>by kernel_rfl) (FE n KX (fun s y0 y1=>Cg n y0 y1 s.1 s.2.1 s.2.2 r_) (KY n r_ am) r_ ((Ab (Ad q) (Ab (Ab Ac Ac) (Ab (Ad u) (Ab (Ad x) (Ab Ac (Ab Ac (Ab Ac Ac))))))):rep ah r_ _) (false,Bb.mk 0 0,(Ap.mk (AI.mk 0 0 0 0) (AI.mk 0 0 0 0) (AT.mk false false))) bb b6 ex16) fun dj cz bc=>?_
  obtain⟨rfl,ai,c1,af,ci,bd,cc⟩:=bc
  obtain⟨cd,_⟩:=be _ _ _ _ af ci bd cc
  have ae:=ch _ _ _ [] af rfl (Nat.le_refl _) (by kernel_rfl) cd
  replace q:=q.mono af
  replace u:=u.mono af
  replace x:=x.mono af
  replace am:=am.mono af
  replace aw:=aw.mono af
  replace ae:Ah ⟨w,h,Aj⟩ ai (IV a l m o p) [⟨DK b r_ g d j f k,none⟩,⟨FJ,some 34⟩,⟨PG x16,some 102⟩,⟨[.int .i64 x16.2.1.number,.int .i64 x16.2.1.sum],some 104⟩,⟨[.bool x16.1],some 4⟩] [] cz:=ae
  refine⟨.tup [],rfl,fun a7 (b2:Kn 23 (IV a l m o p) ((16,.tup [])::(15,.one (.c (.func (.func 52) #[] #[.pointer (some ⟨p,0,none⟩),.pointer (some ⟨o,0,none⟩),.pointer (some ⟨a,0,none⟩),.pointer (some ⟨m,0,none⟩)])))::(tA 14 (DK b r_ g d j f k))::(tP 7 4 0)::(tP 6 3 0)::(tP 5 2 0)::Hx) a7)=>hK _ _ ?_⟩
  have b3:Kn 23 (IV a l m o p) ((tP 7 4 0)::(tP 5 2 0)::Hx) a7:=b2.kp
  refine wf (XT (XT (Aa (Rk 0 2 ((tB 18 (!x16.1))::(tP 5 2 0)::Hx) b3 ae fun df ap=>?_))))
  refine wf (wC ((!x16.1)) ap (fun an=>?_) (fun an=>?_))
  ·
   rw [an,XW] at H
   refine XT (Aa (Rk 0 1 [tA 19 FJ,tP 2 1 0] ap ae fun dg b4=>?_))
   refine wl fun K hK=>?_
   refine G2 1 0 (.agg FJ) FJ b4 ae fun cq bf (ay:Ah ⟨w,h,Aj⟩ ai (IV a l m o p) [⟨DK b r_ g d j f k,none⟩,⟨FJ,some 34⟩,⟨PG x16,some 102⟩,⟨[.int .i64 x16.2.1.number,.int .i64 x16.2.1.sum],some 104⟩,⟨[.bool x16.1],some 4⟩] [] cq)=>hK _ _ ?_
   refine Rk 2 1 [tI 3 9,tP 2 1 0] bf ay fun c5 bg=>?_
   refine wf (wp_ret ?_)
   obtain rfl:=XZ H
   exact rt (.tup [.agg FJ,.c (.int .i64 9)]) bg ay ⟨_,_,rfl,⟨_,rfl,((Ab (Ad A6.nil) (Ab (Ad A6.nil) (Ad A6.nil))):rep ai ((Am.mk ([]:List Int) ([]:List Int) ([]:List Bool)):Am) _)⟩,rfl⟩
  ·
   rw [an,XV] at H
   refine wp_skip (XT (Aa (Rk 0 2 [tA 21 (DK b r_ g d j f k),tA 20 (PG x16),tP 2 1 0] ap ae fun c6 bh=>?_)))
   obtain⟨x22,ex22,H⟩:=Aq H
   refine wl fun K hK=>?_
   refine wc [.agg (PG x16),.agg (DK b r_ g d j f k)] bh ae (CY n ae.has x16.2.2 ((Ab (Ab Ac (Ab Ac (Ab Ac Ac))) (Ab (Ab Ac (Ab Ac (Ab Ac Ac))) (Ab Bo Bo))):rep ai x16.2.2 _) r_ ((Ab (Ad q) (Ab (Ab Ac Ac) (Ab (Ad u) (Ab (Ad x) (Ab Ac (Ab Ac (Ab Ac Ac))))))):rep ai r_ _) ex22) fun dh av dk a9 c4 b7=>?_
   obtain⟨_,rfl,⟨_,_,rfl,⟨y,ab,rfl,ce⟩,⟨_,_,rfl,⟨z,ac,rfl,cf⟩,⟨aa,ad,rfl,cg⟩⟩⟩⟩:=a9
   refine⟨.one (.agg (PE y x22 ab z ac aa ad)),rfl,fun ck (bi:Kn 23 (IV a l m o p) [tA 22 (PE y x22 ab z ac aa ad),tA 21 (DK b r_ g d j f k),tA 20 (PG x16),tP 2 1 0] ck)=>hK _ _ ?_⟩
   refine wl fun K hK=>?_
   refine G2 1 0 (.agg (PE y x22 ab z ac aa ad)) (PE y x22 ab z ac aa ad) bi b7 fun ct bj (az:Ah ⟨w,h,Aj⟩ av (IV a l m o p) [⟨DK b r_ g d j f k,none⟩,⟨PE y x22 ab z ac aa ad,some 34⟩,⟨PG x16,some 102⟩,⟨[.int .i64 x16.2.1.number,.int .i64 x16.2.1.sum],some 104⟩,⟨[.bool x16.1],some 4⟩] [] ct)=>hK _ _ ?_
   refine Rk 4 1 [tI 3 0,tP 2 1 0] bj az fun c7 bk=>?_
   refine wf (wp_ret ?_)
   obtain rfl:=XZ H
   exact rt (.tup [.agg (PE y x22 ab z ac aa ad),.c (.int .i64 0)]) bk az ⟨_,_,rfl,⟨_,rfl,((Ab (Ad ce) (Ab (Ad cf) (Ad cg))):rep av (x22:Am) _)⟩,rfl⟩
end Go.Proofs.Ytokchpjijlebiaa
