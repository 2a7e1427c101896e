/- Each call computes its plain function. -/
import Derived.Test.YtokchpjijlebiaaProg
import Derived.Test.YtokchpjijlebiaaNQP0
import Derived.Test.YtokchpjijlebiaaNQWQ
import Derived.Test.YtokchpjijlebiaaNQWT
import Derived.Test.YtokchpjijlebiaaNQWX
import Derived.Test.YtokchpjijlebiaaNQWY
set_option linter.all false
namespace Go.Proofs.Ytokchpjijlebiaa
open Go Go.RowKit
open Rep (rep)
open KRep (kv)
open VRep (rv)
abbrev EH (c:BN):List SC:=[.int .i64 c.number,.int .i64 c.sum]
abbrev L9 (least:BN):List SC:=[.int .i64 least.number,.int .i64 least.sum]
abbrev DB (b_found b_least b_best b_r_ a f:Nat):AG:=[(b_found,0),(b_least,0),(b_best,0),(b_r_,0),(a,0),(f,0)]
abbrev H2 (g:Option Addr) (r_:Ag) (m:Nat) (k:Option Addr) (p:Nat) (l:Option Addr) (q:Nat):List SC:=[.slice g r_.legs.length m,.int .i64 r_.turn.lo,.int .i64 r_.turn.hi,.slice k r_.buses.length p,.slice l r_.spares.length q,.int .i64 r_.unit,.int .i64 r_.gap,.int .i64 r_.fr,.int .i64 r_.to_]
abbrev DS (d:Aw):List SC:=[.int .i64 d.holds.a0,.int .i64 d.holds.a1,.int .i64 d.holds.a2,.int .i64 d.holds.a3,.int .i64 d.turns.a0,.int .i64 d.turns.a1,.int .i64 d.turns.a2,.int .i64 d.turns.a3,.bool d.spares.a0,.bool d.spares.a1]
abbrev P0 (best:Aw):List SC:=[.int .i64 best.holds.a0,.int .i64 best.holds.a1,.int .i64 best.holds.a2,.int .i64 best.holds.a3,.int .i64 best.turns.a0,.int .i64 best.turns.a1,.int .i64 best.turns.a2,.int .i64 best.turns.a3,.bool best.spares.a0,.bool best.spares.a1]
abbrev IZ:TM:=[tP 7 5 0,tP 6 4 0,tP 2 0 0,tP 3 1 0,tP 4 3 0,tP 5 2 0]
abbrev LA:TM:=[tP 2 0 0,tP 3 1 0,tP 5 2 0]
abbrev HR:TM:=(tB 9 true)::IZ
set_option maxRecDepth 100000 in
set_option maxHeartbeats 4000000 in
theorem Ja (n:Nat) {F:Fr} {h:Ad} {w:World} {b_found b_least b_r_ b_best:Nat} (d:Aw) {cs_d:List Value} (hx_d:rep h d cs_d) (c:BN) {cs_c:List Value} (hx_c:rep h c cs_c) (found:Bool) (least:BN) (best:Aw) (r_:Ag) (hb_r_:Cv h b_r_ r_) (hm:Ah F h [(b_found,0),(b_least,0),(b_best,0)] [⟨[.bool found],some 4⟩,⟨[.int .i64 least.number,.int .i64 least.sum],some 104⟩,⟨[.int .i64 best.holds.a0,.int .i64 best.holds.a1,.int .i64 best.holds.a2,.int .i64 best.holds.a3,.int .i64 best.turns.a0,.int .i64 best.turns.a1,.int .i64 best.turns.a2,.int .i64 best.turns.a3,.bool best.spares.a0,.bool best.spares.a1],some 102⟩] [] w) {r:Bool×BN×Aw} (H:DE n d c found least best r_=some r) :
  Calls Try.prog 52 #[.agg cs_d.toArray,.agg cs_c.toArray,.pointer (some ⟨b_found,0,none⟩),.pointer (some ⟨b_least,0,none⟩),.pointer (some ⟨b_r_,0,none⟩),.pointer (some ⟨b_best,0,none⟩)] w (Nw fun v w'=>∃ (h':Ad),Ad.le h h'∧(v=.tuple #[])∧Ah F h' [(b_found,0),(b_least,0),(b_best,0)] [⟨[.bool r.1],some 4⟩,⟨[.int .i64 r.2.1.number,.int .i64 r.2.1.sum],some 104⟩,⟨[.int .i64 r.2.2.holds.a0,.int .i64 r.2.2.holds.a1,.int .i64 r.2.2.holds.a2,.int .i64 r.2.2.holds.a3,.int .i64 r.2.2.turns.a0,.int .i64 r.2.2.turns.a1,.int .i64 r.2.2.turns.a2,.int .i64 r.2.2.turns.a3,.bool r.2.2.spares.a0,.bool r.2.2.spares.a1],some 102⟩] [] w'):=by
 obtain⟨_,_,rfl,⟨_,_,rfl,rfl,⟨_,_,rfl,rfl,⟨_,_,rfl,rfl,rfl⟩⟩⟩,⟨_,_,rfl,⟨_,_,rfl,rfl,⟨_,_,rfl,rfl,⟨_,_,rfl,rfl,rfl⟩⟩⟩,⟨_,_,rfl,rfl,rfl⟩⟩⟩:=hx_d
 obtain⟨_,_,rfl,rfl,rfl⟩:=hx_c
 obtain⟨_,hx_r_,hc_r_⟩:=id hb_r_
 obtain⟨_,_,rfl,⟨g,m,rfl,ah⟩,⟨_,_,rfl,⟨_,_,rfl,rfl,rfl⟩,⟨_,_,rfl,⟨k,p,rfl,ai⟩,⟨_,_,rfl,⟨l,q,rfl,aj⟩,⟨_,_,rfl,rfl,⟨_,_,rfl,rfl,⟨_,_,rfl,rfl,rfl⟩⟩⟩⟩⟩⟩⟩:=hx_r_
 refine FN (e:=[(b_found,0),(b_least,0),(b_best,0),(b_r_,0)]) 42 [.agg (DS d),.agg (EH c),.c (.ptr 0 0),.c (.ptr 1 0),.c (.ptr 3 0),.c (.ptr 2 0)] Try.func52 rfl rfl rfl rfl fun t hk=>?_
 replace hm:=hm.addPlc (o:=0) (cs:=[.slice g r_.legs.length m,.int .i64 r_.turn.lo,.int .i64 r_.turn.hi,.slice k r_.buses.length p,.slice l r_.spares.length q,.int .i64 r_.unit,.int .i64 r_.gap,.int .i64 r_.fr,.int .i64 r_.to_]) (fun j c hj=>by rw [Nat.zero_add]; exact hc_r_ j _ (Al hj)) rfl (by kernel_rfl) (by kernel_rfl)
 replace hm:Ah F h [(b_found,0),(b_least,0),(b_best,0),(b_r_,0)] [⟨[.bool found],some 4⟩,⟨L9 least,some 104⟩,⟨P0 best,some 102⟩,⟨H2 g r_ m k p l q,none⟩] [] w:=hm
 unfold DE at H
 refine QT (Ab (wl fun K hK=>?_))
 refine wb (.agg (DS d)) hk hm fun a b9 cl (bd:Kn 42 [(b_found,0),(b_least,0),(b_best,0),(b_r_,0),(a,0)] [tP 6 4 0,tA 0 (DS d),tA 1 (EH c),tP 2 0 0,tP 3 1 0,tP 4 3 0,tP 5 2 0] b9) b4=>hK _ _ ?_
 refine wl fun K hK=>?_
 refine wb (.agg (EH c)) bd b4 fun f a6 cm (be:Kn 42 (DB b_found b_least b_best b_r_ a f) [tP 7 5 0,tP 6 4 0,tA 0 (DS d),tA 1 (EH c),tP 2 0 0,tP 3 1 0,tP 4 3 0,tP 5 2 0] a6) u=>hK _ _ ?_
 have bf:Kn 42 (DB b_found b_least b_best b_r_ a f) IZ a6:=be.kp
 refine wf (QT (QT ?_))
 obtain⟨a5,x,H⟩:=A3 H
 refine A7 (fun a' w'=>∃ (aq:Array Value)(aa:Ad),a' = ⟨aq,[]⟩∧Kn 42 (DB b_found b_least b_best b_r_ a f) [tP 7 5 0,tP 6 4 0,tP 2 0 0,tP 3 1 0,tP 4 3 0,tP 5 2 0,tB 34 a5] aq∧Ah F aa (DB b_found b_least b_best b_r_ a f) [⟨[.bool found],some 4⟩,⟨L9 least,some 104⟩,⟨P0 best,some 102⟩,⟨H2 g r_ m k p l q,none⟩,⟨DS d,some 102⟩,⟨EH c,some 104⟩] [] w'∧Ad.le h aa) ?_ ?_
 ·
  refine Ab (Rk 0 2 ((tB 9 found)::IZ) bf u fun a7 au=>?_)
  rcases Bool.eq_false_or_eq_true (found) with ac | ac
  ·
   rw [ac,QW] at x
   have bg:Kn 42 (DB b_found b_least b_best b_r_ a f) HR a7:=(au.setB 9 true (by rfl) ac).kp
   refine Rk 2 4 ((tB 13 ((c.number == least.number) && ((c.sum == least.sum) && true)))::HR) bg u fun a8 av=>?_
   rcases Bool.eq_false_or_eq_true (((c.number == least.number) && ((c.sum == least.sum) && true))) with ad | ad
   ·
    rw [ad,QW] at x
    have bh:Kn 42 (DB b_found b_least b_best b_r_ a f) ((tB 13 true)::HR) a8:=(av.setB 13 true (by rfl) ad).kp
    refine Rk 6 21 ((tB 34 true)::IZ) bh u fun cd bi=>?_
    refine wf ?_
    obtain rfl:=QZ x
    exact QY _ ⟨_,rfl,bi.kp,u,Ad.le_refl _⟩
   ·
    rw [ad,QV] at x
    have bj:Kn 42 (DB b_found b_least b_best b_r_ a f) ((tB 13 false)::HR) a8:=(av.setB 13 false (by rfl) ad).kp
    refine Rk 6 7 ((tB 20 (decide (c.number>least.number)))::HR) bj u fun a9 aw=>?_
    rcases Bool.eq_false_or_eq_true (decide (c.number>least.number)) with ae | ae
    ·
     rw [ae,QW] at x
     have bk:Kn 42 (DB b_found b_least b_best b_r_ a f) ((tB 20 true)::HR) a9:=(aw.setB 20 true (by rfl) ae).kp
     refine Rk 13 14 ((tB 34 true)::IZ) bk u fun ce bl=>?_
     refine wf ?_
     obtain rfl:=QZ x
     exact QY _ ⟨_,rfl,bl.kp,u,Ad.le_refl _⟩
    ·
     rw [ae,QV] at x
     have bm:Kn 42 (DB b_found b_least b_best b_r_ a f) ((tB 20 false)::HR) a9:=(aw.setB 20 false (by rfl) ae).kp
     refine Rk 13 6 ((tB 26 (c.number == least.number))::(tB 20 false)::HR) bm u fun ba ax=>?_
     rcases Bool.eq_false_or_eq_true ((c.number == least.number)) with af | af
     ·
      rw [af,QW] at x
      have bn:Kn 42 (DB b_found b_least b_best b_r_ a f) ((tB 26 true)::(tB 20 false)::HR) ba:=(ax.setB 26 true (by rfl) af).kp
      refine Rk 19 8 ((tB 34 (decide (c.sum>least.sum)))::IZ) bn u fun cf bo=>?_
      refine wf ?_
      obtain rfl:=QZ x
      exact QY _ ⟨_,rfl,bo.kp,u,Ad.le_refl _⟩
     ·
      rw [af,QV] at x
      have bp:Kn 42 (DB b_found b_least b_best b_r_ a f) ((tB 26 false)::(tB 20 false)::HR) ba:=(ax.setB 26 false (by rfl) af).kp
      refine Rk 19 8 ((tB 34 false)::IZ) bp u fun cg bq=>?_
      refine wf ?_
      obtain rfl:=QZ x
      exact QY _ ⟨_,rfl,bq.kp,u,Ad.le_refl _⟩
  ·
   rw [ac,QV] at x
   have br:Kn 42 (DB b_found b_least b_best b_r_ a f) ((tB 9 false)::IZ) a7:=(au.setB 9 false (by rfl) ac).kp
   refine Rk 2 25 ((tB 34 false)::IZ) br u fun ch bs=>?_
   refine wf ?_
   obtain rfl:=QZ x
   exact QY _ ⟨_,rfl,bs.kp,u,Ad.le_refl _⟩
 ·
  rintro _ cn ⟨aq,aa,rfl,ap,ag,z⟩
  replace ah:=ah.mono z
  replace ai:=ai.mono z
  replace aj:=aj.mono z
  replace hb_r_:=hb_r_.mono z
  refine wC (a5) ap (fun an=>?_) (fun an=>?_)
  ·
   rw [an,QW] at H
   refine wp_ret ?_
   obtain rfl:=QZ H
   exact Pn (.tup []) ap ag (by kernel_rfl) ⟨aa,z,rfl,(ag.cutRw 0).cutPl 3 (by kernel_rfl)⟩
  ·
   rw [an,QV] at H
   refine wp_skip (QT (Ab (Rk 0 4 ((tI 38 r_.gap)::(tA 36 (DS d))::(tA 35 (H2 g r_ m k p l q))::(tP 7 5 0)::(tP 6 4 0)::LA) ap ag fun ci bt=>?_)))
   obtain⟨x39,ex39,H⟩:=A3 H
   refine wl fun K hK=>?_
   refine wc [.agg (H2 g r_ m k p l q),.agg (DS d),.c (.int .i64 r_.gap)] bt ag (G6 n ag.has r_ ((Aa (Ae ah) (Aa (Aa Ac Ac) (Aa (Ae ai) (Aa (Ae aj) (Aa Ac (Aa Ac (Aa Ac Ac))))))):rep aa r_ _) d ((Aa (Aa Ac (Aa Ac (Aa Ac Ac))) (Aa (Aa Ac (Aa Ac (Aa Ac Ac))) (Aa AS AS))):rep aa d _) r_.gap ex39) fun ck ar co bc ab y=>?_
   replace ah:=ah.mono ab
   replace ai:=ai.mono ab
   replace aj:=aj.mono ab
   replace hb_r_:=hb_r_.mono ab
   obtain rfl:=bc
   refine⟨.one (.c (.bool x39)),rfl,fun bb (bu:Kn 42 (DB b_found b_least b_best b_r_ a f) ((tB 39 x39)::(tI 38 r_.gap)::(tA 36 (DS d))::(tA 35 (H2 g r_ m k p l q))::(tP 7 5 0)::(tP 6 4 0)::LA) bb)=>hK _ _ ?_⟩
   have ay:Kn 42 (DB b_found b_least b_best b_r_ a f) ((tB 39 x39)::(tP 7 5 0)::(tP 6 4 0)::LA) bb:=bu.kp
   refine wf (wC (x39) ay (fun ao=>?_) (fun ao=>?_))
   ·
    rw [ao,QW] at H
    refine Ao (by kernel_rfl) ?_
    replace y:=y.drew
    refine At [1] (DB b_found b_least b_best b_r_ a f) [⟨[.bool found],some 4⟩,⟨L9 least,some 104⟩,⟨[],some 102⟩,⟨H2 g r_ m k p l q,none⟩,⟨DS d,some 102⟩,⟨EH c,some 104⟩] ?_
    refine FB [0] [0] [40,7,2,3,5] ((tA 40 (DS d))::(tP 7 5 0)::LA) (fun _ _ _ _ _ h=>h) ay (Am.forget [2] y.plOk) (by kernel_rfl) (by rfl) (by kernel_rfl) fun cj az=>?_
    refine Bq (fun W=>∀ a' w',(∃ (am:Array Value)(ak:Ad),a' = ⟨am,[]⟩∧Kn 42 (DB b_found b_least b_best b_r_ a f) [tA 41 (EH c),tP 2 0 0,tP 3 1 0] am∧Ah F ak (DB b_found b_least b_best b_r_ a f) [⟨[.bool found],some 4⟩,⟨L9 least,some 104⟩,⟨DS d,some 102⟩,⟨H2 g r_ m k p l q,none⟩,⟨DS d,some 102⟩,⟨EH c,some 104⟩] [] w'∧Ad.le ar ak)→W (DB b_found b_least b_best b_r_ a f) [⟨[.bool found],some 4⟩,⟨L9 least,some 104⟩,⟨[],some 102⟩,⟨H2 g r_ m k p l q,none⟩,⟨DS d,some 102⟩,⟨EH c,some 104⟩] [1,2,0] a' w') ?_ (fun a4=>?_)
    ·
     rintro _ cp ⟨am,ak,rfl,bv,b5,b3⟩
     refine DG 3 rfl (by kernel_rfl) (by decide) (rfl) (by kernel_rfl) fun K hK=>?_
     refine Ea 1 0 (.agg (EH c)) (EH c) bv b5 fun cq bw b6=>hK _ _ ?_
     refine At [1] (DB b_found b_least b_best b_r_ a f) [⟨[.bool found],some 4⟩,⟨EH c,some 104⟩,⟨[],some 102⟩,⟨H2 g r_ m k p l q,none⟩,⟨DS d,some 102⟩,⟨EH c,some 104⟩] ?_
     refine DG 4 rfl (by kernel_rfl) (by decide) (rfl) (by kernel_rfl) fun K hK=>?_
     refine Ea 0 0 (.c (.bool true)) [.bool true] bw b6 fun cr bx b7=>hK _ _ ?_
     refine At [1] (DB b_found b_least b_best b_r_ a f) [⟨[.bool true],some 4⟩,⟨EH c,some 104⟩,⟨[],some 102⟩,⟨H2 g r_ m k p l q,none⟩,⟨DS d,some 102⟩,⟨EH c,some 104⟩] ?_
     have cc:Kn 42 (DB b_found b_least b_best b_r_ a f) [] am:=bx.kp
     refine AH (by kernel_rfl) ?_
     obtain rfl:=QZ H
     exact Fs rfl ⟨ak,QU z (QU ab b3),rfl,(b7.cutRw 0).cutPl 3 (by kernel_rfl)⟩
    refine EZ 1 2 rfl rfl (by kernel_rfl) (by decide) (rfl) (rfl) (fun K hK=>?_) (fun K hK=>?_)
    ·
     refine AV az (Am.forget [2] y.plOk) rfl (by decide) (by kernel_rfl) fun ca (bz:Kn 42 (DB b_found b_least b_best b_r_ a f) ((tA 41 (EH c))::(tA 40 (DS d))::(tP 7 5 0)::LA) ca)=>hK _ _ (Am.forget [2] y.plOk) ?_
     refine DG 2 rfl (by kernel_rfl) (by decide) (rfl) (by kernel_rfl) fun K hK=>?_
     refine Ea 2 0 (.agg (DS d)) (DS d) bz y fun ct b0 b8=>hK _ _ ?_
     refine At [1] (DB b_found b_least b_best b_r_ a f) [⟨[.bool found],some 4⟩,⟨L9 least,some 104⟩,⟨[],some 102⟩,⟨H2 g r_ m k p l q,none⟩,⟨DS d,some 102⟩,⟨EH c,some 104⟩] ?_
     refine A2 [1,2,0] (by kernel_rfl) (by rfl) (a4 _ _ ?_)
     exact QY _ ⟨_,rfl,b0.kp,b8,Ad.le_refl _⟩
    ·
     refine Ea 2 0 (.agg (DS d)) (DS d) az y fun cu b1 al=>hK _ _ (Am.forget [2] al.plOk) ?_
     refine Dl 1 fun K hK=>?_
     refine AV b1 (Am.forget [2] al.plOk) rfl (by decide) (by kernel_rfl) fun cb (b2:Kn 42 (DB b_found b_least b_best b_r_ a f) ((tA 41 (EH c))::(tA 40 (DS d))::(tP 7 5 0)::LA) cb)=>hK _ _ (Am.forget [2] al.plOk) ?_
     refine A2 [1,2,0] (by kernel_rfl) (by rfl) (a4 _ _ ?_)
     exact QY _ ⟨_,rfl,b2.kp,al,Ad.le_refl _⟩
   ·
    rw [ao,QV] at H
    refine wp_skip ?_
    obtain rfl:=QZ H
    exact Fs rfl ⟨ar,QU z ab,rfl,(y.cutRw 0).cutPl 3 (by kernel_rfl)⟩
theorem Iq {h0:Ad} {b_found b_least b_best:Nat}:Px (D5 h0 b_found b_least b_best) (EJ b_found b_least b_best):=by
 refine⟨fun s F F' h h' hs hle hX hh=>?_,fun s F h hs b hb=>?_⟩
 ·
  obtain⟨h9,⟨d0_1,d0_2,d1_2,_⟩,⟨f0,n0⟩,⟨f1,n1⟩,⟨f2,n2⟩,_⟩:=hs
  exact⟨QU h9 hle,⟨d0_1,d0_2,d1_2,trivial⟩,⟨(hX _ (.inl rfl)).trans f0,fun o=>JS (hh _ (.inl rfl) o) (n0 o)⟩,⟨(hX _ (.inr (.inl rfl))).trans f1,fun o=>JS (hh _ (.inr (.inl rfl)) o) (n1 o)⟩,⟨(hX _ (.inr (.inr (rfl)))).trans f2,fun o=>JS (hh _ (.inr (.inr (rfl))) o) (n2 o)⟩,trivial⟩
 ·
  obtain⟨h9,⟨d0_1,d0_2,d1_2,_⟩,⟨f0,n0⟩,⟨f1,n1⟩,⟨f2,n2⟩,_⟩:=hs
  rcases hb with rfl | rfl | rfl
  ·
   rw [f0]; rfl
  ·
   rw [f1]; rfl
  ·
   rw [f2]; rfl
theorem H3 {fw:World} {h:Ad} {Y:Nat→Option Obj} {w:World} {b_found b_least b_best:Nat} (s:Bool×BN×Aw) (hl:Ah ⟨fw,h,Y⟩ h [(b_found,0),(b_least,0),(b_best,0)] [⟨[.bool s.1],some 4⟩,⟨[.int .i64 s.2.1.number,.int .i64 s.2.1.sum],some 104⟩,⟨[.int .i64 s.2.2.holds.a0,.int .i64 s.2.2.holds.a1,.int .i64 s.2.2.holds.a2,.int .i64 s.2.2.holds.a3,.int .i64 s.2.2.turns.a0,.int .i64 s.2.2.turns.a1,.int .i64 s.2.2.turns.a2,.int .i64 s.2.2.turns.a3,.bool s.2.2.spares.a0,.bool s.2.2.spares.a1],some 102⟩] [] w) :
  ∃ F1:Fr,Ah F1 h [] [] [] w∧D5 h b_found b_least b_best s F1 h∧∀ (G:Fr)(h':Ad)(w':World)(s':Bool×BN×Aw),Ad.le h h'→Fr.Sim (EJ b_found b_least b_best) F1 G→D5 h b_found b_least b_best s' G h'→Ah G h' [] [] [] w' →
   Ah ⟨fw,h,Y⟩ h' [(b_found,0),(b_least,0),(b_best,0)] [⟨[.bool s'.1],some 4⟩,⟨[.int .i64 s'.2.1.number,.int .i64 s'.2.1.sum],some 104⟩,⟨[.int .i64 s'.2.2.holds.a0,.int .i64 s'.2.2.holds.a1,.int .i64 s'.2.2.holds.a2,.int .i64 s'.2.2.holds.a3,.int .i64 s'.2.2.turns.a0,.int .i64 s'.2.2.turns.a1,.int .i64 s'.2.2.turns.a2,.int .i64 s'.2.2.turns.a3,.bool s'.2.2.spares.a0,.bool s'.2.2.spares.a1],some 102⟩] [] w'∧True:=by
 have d0_1:b_found≠b_least:=hl.blk_ne (i:=0) (j:=1) rfl rfl rfl rfl (by decide)
 have d0_2:b_found≠b_best:=hl.blk_ne (i:=0) (j:=2) rfl rfl rfl rfl (by decide)
 have d1_2:b_least≠b_best:=hl.blk_ne (i:=1) (j:=2) rfl rfl rfl rfl (by decide)
 have px0:Y b_found=none:=hl.placeX (i:=0) rfl rfl
 have px1:Y b_least=none:=hl.placeX (i:=1) rfl rfl
 have px2:Y b_best=none:=hl.placeX (i:=2) rfl rfl
 obtain⟨q2,n2⟩:=Ah.hide (e:=[(b_found,0),(b_least,0)]) (pl:=[⟨[.bool s.1],some 4⟩,⟨[.int .i64 s.2.1.number,.int .i64 s.2.1.sum],some 104⟩]) (b:=b_best) (T:=102) (cs:=[.int .i64 s.2.2.holds.a0,.int .i64 s.2.2.holds.a1,.int .i64 s.2.2.holds.a2,.int .i64 s.2.2.holds.a3,.int .i64 s.2.2.turns.a0,.int .i64 s.2.2.turns.a1,.int .i64 s.2.2.turns.a2,.int .i64 s.2.2.turns.a3,.bool s.2.2.spares.a0,.bool s.2.2.spares.a1]) ([.int .i64 s.2.2.holds.a0,.int .i64 s.2.2.holds.a1,.int .i64 s.2.2.holds.a2,.int .i64 s.2.2.holds.a3,.int .i64 s.2.2.turns.a0,.int .i64 s.2.2.turns.a1,.int .i64 s.2.2.turns.a2,.int .i64 s.2.2.turns.a3,.bool s.2.2.spares.a0,.bool s.2.2.spares.a1]:List Value) hl rfl (by kernel_rfl) rfl
 obtain⟨q1,n1⟩:=Ah.hide (e:=[(b_found,0)]) (pl:=[⟨[.bool s.1],some 4⟩]) (b:=b_least) (T:=104) (cs:=[.int .i64 s.2.1.number,.int .i64 s.2.1.sum]) ([.int .i64 s.2.1.number,.int .i64 s.2.1.sum]:List Value) q2 rfl (by kernel_rfl) rfl
 obtain⟨q0,n0⟩:=Ah.hide (e:=[]) (pl:=[]) (b:=b_found) (T:=4) (cs:=[.bool s.1]) ([.bool s.1]:List Value) q1 rfl (by kernel_rfl) rfl
 refine⟨_,q0,⟨Ad.le_refl _,⟨d0_1,d0_2,d1_2,trivial⟩,⟨Fr.put_X _ _ _,n0⟩,⟨(Fr.put_ne _ _ d0_1.symm).trans (Fr.put_X _ _ _),n1⟩,⟨(Fr.put_ne _ _ d0_2.symm).trans ((Fr.put_ne _ _ d1_2.symm).trans (Fr.put_X _ _ _)),n2⟩,trivial⟩,fun G h' w' s' hle hsim hs' hm'=>?_⟩
 obtain⟨h9,_,⟨f0,g0⟩,⟨f1,g1⟩,⟨f2,g2⟩,_⟩:=hs'
 have u0:=Ah.unhide (e:=[]) (pl:=[]) (b:=b_found) (T:=4) (cs:=[.bool s'.1]) ([.bool s'.1]:List Value) hm' f0 g0 rfl (by kernel_rfl) (by kernel_rfl) rfl
 have u1:=Ah.unhide (e:=[(b_found,0)]) (pl:=[⟨[.bool s'.1],some 4⟩]) (b:=b_least) (T:=104) (cs:=[.int .i64 s'.2.1.number,.int .i64 s'.2.1.sum]) ([.int .i64 s'.2.1.number,.int .i64 s'.2.1.sum]:List Value) u0 ((Fr.put_ne _ _ d0_1.symm).trans f1) g1 rfl (by kernel_rfl) (by kernel_rfl) rfl
 have u2:=Ah.unhide (e:=[(b_found,0),(b_least,0)]) (pl:=[⟨[.bool s'.1],some 4⟩,⟨[.int .i64 s'.2.1.number,.int .i64 s'.2.1.sum],some 104⟩]) (b:=b_best) (T:=102) (cs:=[.int .i64 s'.2.2.holds.a0,.int .i64 s'.2.2.holds.a1,.int .i64 s'.2.2.holds.a2,.int .i64 s'.2.2.holds.a3,.int .i64 s'.2.2.turns.a0,.int .i64 s'.2.2.turns.a1,.int .i64 s'.2.2.turns.a2,.int .i64 s'.2.2.turns.a3,.bool s'.2.2.spares.a0,.bool s'.2.2.spares.a1]) ([.int .i64 s'.2.2.holds.a0,.int .i64 s'.2.2.holds.a1,.int .i64 s'.2.2.holds.a2,.int .i64 s'.2.2.holds.a3,.int .i64 s'.2.2.turns.a0,.int .i64 s'.2.2.turns.a1,.int .i64 s'.2.2.turns.a2,.int .i64 s'.2.2.turns.a3,.bool s'.2.2.spares.a0,.bool s'.2.2.spares.a1]:List Value) u1 ((Fr.put_ne _ _ d1_2.symm).trans ((Fr.put_ne _ _ d0_2.symm).trans f2)) g2 rfl (by kernel_rfl) (by kernel_rfl) rfl
 have hF:Fr.put (Fr.put (Fr.put G b_found none) b_least none) b_best none=⟨fw,h,Y⟩:=by
  refine Fr.eqOf hsim.w hsim.h fun b=>?_
  by_cases e2:b=b_best
  ·
   subst e2; rw [Fr.put_X]; exact px2.symm
  rw [Fr.put_ne _ _ e2]
  by_cases e1:b=b_least
  ·
   subst e1; rw [Fr.put_X]; exact px1.symm
  rw [Fr.put_ne _ _ e1]
  by_cases e0:b=b_found
  ·
   subst e0; rw [Fr.put_X]; exact px0.symm
  rw [Fr.put_ne _ _ e0]
  refine(hsim.X b (fun hb=>by rcases hb with hb | hb | hb <;> contradiction)).trans ?_
  rw [Fr.put_ne _ _ e0,Fr.put_ne _ _ e1,Fr.put_ne _ _ e2]
 rw [hF] at u2
 exact⟨u2,trivial⟩
theorem Ir (n:Nat) {h0:Ad} {b_found b_least b_best:Nat} {b_r_:Nat} (r_:Ag) (hb_r_:Cv h0 b_r_ r_):Ou (D5 h0 b_found b_least b_best) (EJ b_found b_least b_best) (.func (.func 52) #[] #[.pointer (some ⟨b_found,0,none⟩),.pointer (some ⟨b_least,0,none⟩),.pointer (some ⟨b_r_,0,none⟩),.pointer (some ⟨b_best,0,none⟩)]) (fun s x0 x1=>DE n x0 x1 s.1 s.2.1 s.2.2 r_):=by
 intro s F h w x0 cs0 hx0 x1 cs1 hx1 s' hs hm H
 obtain⟨h9,⟨d0_1,d0_2,d1_2,_⟩,⟨f0,n0⟩,⟨f1,n1⟩,⟨f2,n2⟩,_⟩:=hs
 have u0:=Ah.unhide (e:=[]) (pl:=[]) (b:=b_found) (T:=4) (cs:=[.bool s.1]) ([.bool s.1]:List Value) hm f0 n0 rfl (by kernel_rfl) (by kernel_rfl) rfl
 have u1:=Ah.unhide (e:=[(b_found,0)]) (pl:=[⟨[.bool s.1],some 4⟩]) (b:=b_least) (T:=104) (cs:=[.int .i64 s.2.1.number,.int .i64 s.2.1.sum]) ([.int .i64 s.2.1.number,.int .i64 s.2.1.sum]:List Value) u0 ((Fr.put_ne _ _ d0_1.symm).trans f1) n1 rfl (by kernel_rfl) (by kernel_rfl) rfl
 have u2:=Ah.unhide (e:=[(b_found,0),(b_least,0)]) (pl:=[⟨[.bool s.1],some 4⟩,⟨[.int .i64 s.2.1.number,.int .i64 s.2.1.sum],some 104⟩]) (b:=b_best) (T:=102) (cs:=[.int .i64 s.2.2.holds.a0,.int .i64 s.2.2.holds.a1,.int .i64 s.2.2.holds.a2,.int .i64 s.2.2.holds.a3,.int .i64 s.2.2.turns.a0,.int .i64 s.2.2.turns.a1,.int .i64 s.2.2.turns.a2,.int .i64 s.2.2.turns.a3,.bool s.2.2.spares.a0,.bool s.2.2.spares.a1]) ([.int .i64 s.2.2.holds.a0,.int .i64 s.2.2.holds.a1,.int .i64 s.2.2.holds.a2,.int .i64 s.2.2.holds.a3,.int .i64 s.2.2.turns.a0,.int .i64 s.2.2.turns.a1,.int .i64 s.2.2.turns.a2,.int .i64 s.2.2.turns.a3,.bool s.2.2.spares.a0,.bool s.2.2.spares.a1]:List Value) u1 ((Fr.put_ne _ _ d1_2.symm).trans ((Fr.put_ne _ _ d0_2.symm).trans f2)) n2 rfl (by kernel_rfl) (by kernel_rfl) rfl
 refine⟨52,_,_,rfl,fun _ _=>by kernel_rfl,Calls.mono (Ja n x0 hx0 x1 hx1 s.1 s.2.1 s.2.2 r_ (hb_r_.mono h9) u2 H) ?_⟩
 rintro en w' ⟨v,rfl,h2,hle,rfl,m2⟩
 obtain⟨q2,_⟩:=Ah.hide (e:=[(b_found,0),(b_least,0)]) (pl:=[⟨[.bool s'.1],some 4⟩,⟨[.int .i64 s'.2.1.number,.int .i64 s'.2.1.sum],some 104⟩]) (b:=b_best) (T:=102) (cs:=[.int .i64 s'.2.2.holds.a0,.int .i64 s'.2.2.holds.a1,.int .i64 s'.2.2.holds.a2,.int .i64 s'.2.2.holds.a3,.int .i64 s'.2.2.turns.a0,.int .i64 s'.2.2.turns.a1,.int .i64 s'.2.2.turns.a2,.int .i64 s'.2.2.turns.a3,.bool s'.2.2.spares.a0,.bool s'.2.2.spares.a1]) ([.int .i64 s'.2.2.holds.a0,.int .i64 s'.2.2.holds.a1,.int .i64 s'.2.2.holds.a2,.int .i64 s'.2.2.holds.a3,.int .i64 s'.2.2.turns.a0,.int .i64 s'.2.2.turns.a1,.int .i64 s'.2.2.turns.a2,.int .i64 s'.2.2.turns.a3,.bool s'.2.2.spares.a0,.bool s'.2.2.spares.a1]:List Value) m2 rfl (by kernel_rfl) rfl
 obtain⟨q1,_⟩:=Ah.hide (e:=[(b_found,0)]) (pl:=[⟨[.bool s'.1],some 4⟩]) (b:=b_least) (T:=104) (cs:=[.int .i64 s'.2.1.number,.int .i64 s'.2.1.sum]) ([.int .i64 s'.2.1.number,.int .i64 s'.2.1.sum]:List Value) q2 rfl (by kernel_rfl) rfl
 obtain⟨q0,_⟩:=Ah.hide (e:=[]) (pl:=[]) (b:=b_found) (T:=4) (cs:=[.bool s'.1]) ([.bool s'.1]:List Value) q1 rfl (by kernel_rfl) rfl
 refine⟨_,rfl,rfl,h2,Fr.put (Fr.put (Fr.put (Fr.put (Fr.put (Fr.put F b_found none) b_least none) b_best none) b_best (some (.cells ([.int .i64 s'.2.2.holds.a0,.int .i64 s'.2.2.holds.a1,.int .i64 s'.2.2.holds.a2,.int .i64 s'.2.2.holds.a3,.int .i64 s'.2.2.turns.a0,.int .i64 s'.2.2.turns.a1,.int .i64 s'.2.2.turns.a2,.int .i64 s'.2.2.turns.a3,.bool s'.2.2.spares.a0,.bool s'.2.2.spares.a1]:List Value).toArray 102 (0,0)))) b_least (some (.cells ([.int .i64 s'.2.1.number,.int .i64 s'.2.1.sum]:List Value).toArray 104 (0,0)))) b_found (some (.cells ([.bool s'.1]:List Value).toArray 4 (0,0))),hle,⟨rfl,rfl,fun b hb=>?_⟩,⟨QU h9 hle,⟨d0_1,d0_2,d1_2,trivial⟩,⟨Fr.put_X _ _ _,n0⟩,⟨(Fr.put_ne _ _ d0_1.symm).trans (Fr.put_X _ _ _),n1⟩,⟨(Fr.put_ne _ _ d0_2.symm).trans ((Fr.put_ne _ _ d1_2.symm).trans (Fr.put_X _ _ _)),n2⟩,trivial⟩,q0⟩
 have e0:b≠b_found:=fun e=>hb (.inl e)
 have e1:b≠b_least:=fun e=>hb (.inr (.inl e))
 have e2:b≠b_best:=fun e=>hb (.inr (.inr (e)))
 rw [Fr.put_ne _ _ e0,Fr.put_ne _ _ e1,Fr.put_ne _ _ e2,Fr.put_ne _ _ e2,Fr.put_ne _ _ e1,Fr.put_ne _ _ e0]
abbrev H4:List SC:=[.slice none 0 0,.slice none 0 0,.slice none 0 0]
abbrev JO (a m l o p:Nat):AG:=[(a,0),(m,0),(l,0),(o,0),(p,0)]
abbrev Nc (z:Option Addr) (x22:A0) (ac:Nat) (aa:Option Addr) (ad:Nat) (ab:Option Addr) (ae:Nat):List SC:=[.slice z x22.holds.length ac,.slice aa x22.turns.length ad,.slice ab x22.spares.length ae]
abbrev P1:List SC:=[.int .i64 0,.int .i64 0,.int .i64 0,.int .i64 0,.int .i64 0,.int .i64 0,.int .i64 0,.int .i64 0,.bool false,.bool false]
abbrev Fd (b:Option Addr) (r_:Ag) (g:Nat) (d:Option Addr) (j:Nat) (f:Option Addr) (k:Nat):List SC:=[.slice b r_.legs.length g,.int .i64 r_.turn.lo,.int .i64 r_.turn.hi,.slice d r_.buses.length j,.slice f r_.spares.length k,.int .i64 r_.unit,.int .i64 r_.gap,.int .i64 r_.fr,.int .i64 r_.to_]
abbrev NW (x16:(Bool×BN×Aw)):List SC:=[.int .i64 x16.2.2.holds.a0,.int .i64 x16.2.2.holds.a1,.int .i64 x16.2.2.holds.a2,.int .i64 x16.2.2.holds.a3,.int .i64 x16.2.2.turns.a0,.int .i64 x16.2.2.turns.a1,.int .i64 x16.2.2.turns.a2,.int .i64 x16.2.2.turns.a3,.bool x16.2.2.spares.a0,.bool x16.2.2.spares.a1]
abbrev FL:TM:=[tP 2 1 0,tP 1 0 0]
set_option maxRecDepth 100000 in
set_option maxHeartbeats 4000000 in
theorem GO (n:Nat) {h:Ad} {w:World} (hh:Dv h w) (r_:Ag) {cs_r_:List Value} (hx_r_:rep h r_ cs_r_) {r:A0×Int} (H:Ev n r_=some r) :
  Calls Try.prog 14 #[.agg cs_r_.toArray] w (D6 (fun h v=>∃ v0 v1,v=.tuple #[v0,v1]∧(∃ cs,v0=.agg cs.toArray∧rep h r.1 cs)∧(v1=.int .i64 r.2)) h w):=by
 obtain⟨_,_,rfl,⟨b,g,rfl,q⟩,⟨_,_,rfl,⟨_,_,rfl,rfl,rfl⟩,⟨_,_,rfl,⟨d,j,rfl,u⟩,⟨_,_,rfl,⟨f,k,rfl,x⟩,⟨_,_,rfl,rfl,⟨_,_,rfl,rfl,⟨_,_,rfl,rfl,rfl⟩⟩⟩⟩⟩⟩⟩:=hx_r_
 refine enter 23 [.agg (Fd b r_ g d j f k)] Try.func14 rfl rfl rfl rfl fun t hk=>?_
 have hm:=Ah.begin h w hh
 unfold Ev at H
 refine QT (Ab (wl fun K hK=>?_))
 refine wb (.agg (Fd b r_ g d j f k)) hk hm fun a ci de (bk:Kn 23 [(a,0)] [tP 1 0 0,tA 0 (Fd b r_ g d j f k)] ci) b7=>hK _ _ ?_
 refine wl fun K hK=>?_
 refine wa H4 bk b7 fun m ck dg (bl:Kn 23 [(a,0),(m,0)] [tP 2 1 0,tP 1 0 0,tA 0 (Fd b r_ g d j f k)] ck) aj=>hK _ _ ?_
 refine Rk 2 1 FL bl aj fun c0 bm=>?_
 refine wf (QT (QT (Ab (Rk 0 1 ((tA 8 (Fd b r_ g d j f k))::FL) bm aj fun c1 bn=>?_))))
 obtain⟨x9,ex9,H⟩:=A3 H
 refine wl fun K hK=>?_
 refine wc [.agg (Fd b r_ g d j f k)] bn aj (Cw n aj.has r_ ((Aa (Ae q) (Aa (Aa Ac Ac) (Aa (Ae u) (Aa (Ae x) (Aa Ac (Aa Ac (Aa Ac Ac))))))):rep h r_ _) ex9) fun da bc dh a7 ap ah=>?_
 replace q:=q.mono ap
 replace u:=u.mono ap
 replace x:=x.mono ap
 obtain rfl:=a7
 refine⟨.one (.c (.int .i64 x9)),rfl,fun cl (bo:Kn 23 [(a,0),(m,0)] ((tI 9 x9)::(tA 8 (Fd b r_ g d j f k))::FL) cl)=>hK _ _ ?_⟩
 refine Rk 2 1 ((tI 4 x9)::FL) bo ah fun c2 bp=>?_
 refine wf (QT (Ab (Rk 0 2 ((tB 11 (x9 != 0))::(tI 4 x9)::FL) bp ah fun c3 an=>?_)))
 refine wf (wC ((x9 != 0)) an (fun ak=>?_) (fun ak=>?_))
 ·
  rw [ak,QW] at H
  refine QT (Ab (Rk 0 2 [tI 13 x9,tA 12 H4,tP 2 1 0] an ah fun c4 bq=>?_))
  refine wl fun K hK=>?_
  refine Ea 1 0 (.agg H4) H4 bq ah fun di br ay=>hK _ _ ?_
  refine Rk 3 1 [tI 3 x9,tP 2 1 0] br ay fun c5 bs=>?_
  refine wf (wp_ret ?_)
  obtain rfl:=QZ H
  exact rt (.tup [.agg H4,.c (.int .i64 x9)]) bs ay ⟨_,_,rfl,⟨_,rfl,((Aa (Ae Ar.nil) (Aa (Ae Ar.nil) (Ae Ar.nil))):rep bc ((A0.mk ([]:List Int) ([]:List Int) ([]:List Bool)):A0) _)⟩,rfl⟩
 ·
  rw [ak,QV] at H
  refine wp_skip (QT (Ab (wl fun K hK=>?_)))
  refine wa P1 an ah fun l a4 dj (bt:Kn 23 [(a,0),(m,0),(l,0)] ((tP 5 2 0)::(tB 11 (x9 != 0))::(tI 4 x9)::FL) a4) b8=>hK _ _ ?_
  have bu:Kn 23 [(a,0),(m,0),(l,0)] ((tP 5 2 0)::FL) a4:=bt.kp
  refine wf (QT (Ab (wl fun K hK=>?_)))
  refine wa [.int .i64 0,.int .i64 0] bu b8 fun o cm dk (bv:Kn 23 [(a,0),(m,0),(l,0),(o,0)] ((tP 6 3 0)::(tP 5 2 0)::FL) cm) b9=>hK _ _ ?_
  refine wf (QT (Ab (wl fun K hK=>?_)))
  refine wa [.bool false] bv b9 fun p cn dl (bw:Kn 23 (JO a m l o p) ((tP 7 4 0)::(tP 6 3 0)::(tP 5 2 0)::FL) cn) ca=>hK _ _ ?_
  refine wl fun K hK=>?_
  refine Ea 4 0 (.c (.bool false)) [.bool false] bw ca fun cp bx az=>hK _ _ ?_
  refine wf (QT (Ab (Rk 0 1 ((tA 14 (Fd b r_ g d j f k))::(tP 7 4 0)::(tP 6 3 0)::(tP 5 2 0)::FL) bx az fun c6 bz=>?_)))
  obtain⟨ag,aq,av,ar⟩:=az.settlePlc (i:=0) rfl
  replace q:=q.mono aq
  replace u:=u.mono aq
  replace x:=x.mono aq
  replace ar:Ah ⟨w,h,Az⟩ ag (JO a m l o p) [⟨Fd b r_ g d j f k,none⟩,⟨H4,some 34⟩,⟨P1,some 102⟩,⟨[.int .i64 0,.int .i64 0],some 104⟩,⟨[.bool false],some 4⟩] [] cp:=ar
  have al:Cv ag a (r_:Ag):=Cv.of (e:=(JO a m l o p)) (cs:=(Fd b r_ g d j f k)) ((Aa (Ae q) (Aa (Aa Ac Ac) (Aa (Ae u) (Aa (Ae x) (Aa Ac (Aa Ac (Aa Ac Ac))))))):rep ag (r_:Ag) _) rfl av
  have au:A8 ag a [.slice b r_.legs.length g,.int .i64 r_.turn.lo,.int .i64 r_.turn.hi,.slice d r_.buses.length j,.slice f r_.spares.length k,.int .i64 r_.unit,.int .i64 r_.gap,.int .i64 r_.fr,.int .i64 r_.to_]:=A8.of (e:=[(a,0),(m,0),(l,0),(o,0),(p,0)]) (cs:=[.slice b r_.legs.length g,.int .i64 r_.turn.lo,.int .i64 r_.turn.hi,.slice d r_.buses.length j,.slice f r_.spares.length k,.int .i64 r_.unit,.int .i64 r_.gap,.int .i64 r_.fr,.int .i64 r_.to_]) rfl av
  refine Fw 1 #[] #[.pointer (some ⟨p,0,none⟩),.pointer (some ⟨o,0,none⟩),.pointer (some ⟨a,0,none⟩),.pointer (some ⟨l,0,none⟩)] bz rfl rfl (rfl) rfl (by decide) (by rfl) (by rfl) (by rfl) (by rfl) fun co (b0:Kn 23 (JO a m l o p) ((15,.one (.c (.func (.func 52) #[] #[.pointer (some ⟨p,0,none⟩),.pointer (some ⟨o,0,none⟩),.pointer (some ⟨a,0,none⟩),.pointer (some ⟨l,0,none⟩)])))::(tA 14 (Fd b r_ g d j f k))::(tP 7 4 0)::(tP 6 3 0)::(tP 5 2 0)::FL) co)=>?_
  obtain⟨x16,ex16,H⟩:=A3 H
  obtain⟨cu,cv,b4,cg⟩:=ar.lend0 [4,3,2] [] (by kernel_rfl) (by kernel_rfl) (by kernel_rfl) (by kernel_rfl)
  obtain⟨cr,b5,a8,bd⟩:=H3 (false,BN.mk 0 0,(Aw.mk (Bb.mk 0 0 0 0) (Bb.mk 0 0 0 0) (Bg.mk false false))) b4
  refine wl fun K hK=>?_
  refine Kw [.agg (Fd b r_ g d j f k),.c (.func (.func 52) #[] #[.pointer (some ⟨p,0,none⟩),.pointer (some ⟨o,0,none⟩),.pointer (some ⟨a,0,none⟩),.pointer (some ⟨l,0,none⟩)])] _ b0 rfl rfl (by decide) (by rfl) rfl (fun _ _=>by kernel_rfl) (E9 n Iq (fun s y0 y1=>DE n y0 y1 s.1 s.2.1 s.2.2 r_) (Ir n r_ al) r_ ((Aa (Ae q) (Aa (Aa Ac Ac) (Aa (Ae u) (Aa (Ae x) (Aa Ac (Aa Ac (Aa Ac Ac))))))):rep ag r_ _) (false,BN.mk 0 0,(Aw.mk (Bb.mk 0 0 0 0) (Bb.mk 0 0 0 0) (Bg.mk false false))) a8 b5 ex16) fun db cq a9=>?_
  obtain⟨rfl,ai,ct,af,ch,ba,cb⟩:=a9
  obtain⟨cc,_⟩:=bd _ _ _ _ af ch ba cb
  have y:=cg _ _ _ [] af rfl (Nat.le_refl _) (by kernel_rfl) cc
  replace q:=q.mono af
  replace u:=u.mono af
  replace x:=x.mono af
  replace al:=al.mono af
  replace au:=au.mono af
  replace y:Ah ⟨w,h,Az⟩ ai (JO a m l o p) [⟨Fd b r_ g d j f k,none⟩,⟨H4,some 34⟩,⟨NW x16,some 102⟩,⟨[.int .i64 x16.2.1.number,.int .i64 x16.2.1.sum],some 104⟩,⟨[.bool x16.1],some 4⟩] [] cq:=y
  refine⟨.tup [],rfl,fun a5 (b1:Kn 23 (JO a m l o p) ((16,.tup [])::(15,.one (.c (.func (.func 52) #[] #[.pointer (some ⟨p,0,none⟩),.pointer (some ⟨o,0,none⟩),.pointer (some ⟨a,0,none⟩),.pointer (some ⟨l,0,none⟩)])))::(tA 14 (Fd b r_ g d j f k))::(tP 7 4 0)::(tP 6 3 0)::(tP 5 2 0)::FL) a5)=>hK _ _ ?_⟩
  have b2:Kn 23 (JO a m l o p) ((tP 7 4 0)::(tP 5 2 0)::FL) a5:=b1.kp
  refine wf (QT (QT (Ab (Rk 0 2 ((tB 18 (!x16.1))::(tP 5 2 0)::FL) b2 y fun c7 ao=>?_))))
  refine wf (wC ((!x16.1)) ao (fun am=>?_) (fun am=>?_))
  ·
   rw [am,QW] at H
   refine QT (Ab (Rk 0 1 [tA 19 H4,tP 2 1 0] ao y fun c8 b3=>?_))
   refine wl fun K hK=>?_
   refine Ea 1 0 (.agg H4) H4 b3 y fun dc be aw=>hK _ _ ?_
   refine Rk 2 1 [tI 3 9,tP 2 1 0] be aw fun cx bf=>?_
   refine wf (wp_ret ?_)
   obtain rfl:=QZ H
   exact rt (.tup [.agg H4,.c (.int .i64 9)]) bf aw ⟨_,_,rfl,⟨_,rfl,((Aa (Ae Ar.nil) (Aa (Ae Ar.nil) (Ae Ar.nil))):rep ai ((A0.mk ([]:List Int) ([]:List Int) ([]:List Bool)):A0) _)⟩,rfl⟩
  ·
   rw [am,QV] at H
   refine wp_skip (QT (Ab (Rk 0 2 [tA 21 (Fd b r_ g d j f k),tA 20 (NW x16),tP 2 1 0] ao y fun cy bg=>?_)))
   obtain⟨x22,ex22,H⟩:=A3 H
   refine wl fun K hK=>?_
   refine wc [.agg (NW x16),.agg (Fd b r_ g d j f k)] bg y (CB n y.has x16.2.2 ((Aa (Aa Ac (Aa Ac (Aa Ac Ac))) (Aa (Aa Ac (Aa Ac (Aa Ac Ac))) (Aa AS AS))):rep ai x16.2.2 _) r_ ((Aa (Ae q) (Aa (Aa Ac Ac) (Aa (Ae u) (Aa (Ae x) (Aa Ac (Aa Ac (Aa Ac Ac))))))):rep ai r_ _) ex22) fun c9 bb dd a6 cw b6=>?_
   obtain⟨_,rfl,⟨_,_,rfl,⟨z,ac,rfl,cd⟩,⟨_,_,rfl,⟨aa,ad,rfl,ce⟩,⟨ab,ae,rfl,cf⟩⟩⟩⟩:=a6
   refine⟨.one (.agg (Nc z x22 ac aa ad ab ae)),rfl,fun cj (bh:Kn 23 (JO a m l o p) [tA 22 (Nc z x22 ac aa ad ab ae),tA 21 (Fd b r_ g d j f k),tA 20 (NW x16),tP 2 1 0] cj)=>hK _ _ ?_⟩
   refine wl fun K hK=>?_
   refine Ea 1 0 (.agg (Nc z x22 ac aa ad ab ae)) (Nc z x22 ac aa ad ab ae) bh b6 fun df bi ax=>hK _ _ ?_
   refine Rk 4 1 [tI 3 0,tP 2 1 0] bi ax fun cz bj=>?_
   refine wf (wp_ret ?_)
   obtain rfl:=QZ H
   exact rt (.tup [.agg (Nc z x22 ac aa ad ab ae),.c (.int .i64 0)]) bj ax ⟨_,_,rfl,⟨_,rfl,((Aa (Ae cd) (Aa (Ae ce) (Ae cf))):rep bb (x22:A0) _)⟩,rfl⟩
end Go.Proofs.Ytokchpjijlebiaa
