/- Each call computes its plain function. -/
import Derived.Test.YtokchpjijlebiaaProg
import Derived.Test.YtokchpjijlebiaaBGP0
import Derived.Test.YtokchpjijlebiaaBGWQ
import Derived.Test.YtokchpjijlebiaaBGWR
import Derived.Test.YtokchpjijlebiaaBGWT
import Derived.Test.YtokchpjijlebiaaBGWX
import Derived.Test.YtokchpjijlebiaaBGWY
set_option linter.all false
namespace Go.Proofs.Ytokchpjijlebiaa
open Go Go.RowKit
open Rep (rep)
open KRep (kv)
open VRep (rv)
theorem Ap.KL:KL Try.prog 102 Ap:=by
  refine KL.struct 5 (by decide) (fun x=>[.int .i64 x.holds.a0,.int .i64 x.holds.a1,.int .i64 x.holds.a2,.int .i64 x.holds.a3,.int .i64 x.turns.a0,.int .i64 x.turns.a1,.int .i64 x.turns.a2,.int .i64 x.turns.a3,.bool x.spares.a0,.bool x.spares.a1]) (fun _=>rfl) (by kernel_rfl) (fun _=>by kernel_rfl) (fun _=>by kernel_rfl) fun a b=>⟨((a.holds.a0 == b.holds.a0) && ((a.holds.a1 == b.holds.a1) && ((a.holds.a2 == b.holds.a2) && ((a.holds.a3 == b.holds.a3) && true)))) && (((a.turns.a0 == b.turns.a0) && ((a.turns.a1 == b.turns.a1) && ((a.turns.a2 == b.turns.a2) && ((a.turns.a3 == b.turns.a3) && true)))) && (((a.spares.a0 == b.spares.a0) && ((a.spares.a1 == b.spares.a1) && true)) && true)),by kernel_rfl,?_⟩
  rcases a with⟨⟨a0,a1,a2,a3⟩,⟨a4,a5,a6,a7⟩,⟨a8,a9⟩⟩
  rcases b with⟨⟨b0,b1,b2,b3⟩,⟨b4,b5,b6,b7⟩,⟨b8,b9⟩⟩
  simp [and_assoc]
abbrev Ob (p1:Bb):List SC:=[.int .i64 p1.number,.int .i64 p1.sum]
abbrev DD (b_least b_tried b_r_ a u:Nat):Ba:=[(b_least,0),(b_tried,0),(b_r_,0),(a,0),(u,0)]
abbrev LG (f:Option Addr) (r_:Af) (m:Nat) (g:Option Addr) (p:Nat) (l:Option Addr) (q:Nat):List SC:=[.slice f r_.legs.length m,.int .i64 r_.turn.lo,.int .i64 r_.turn.hi,.slice g r_.buses.length p,.slice l r_.spares.length q,.int .i64 r_.unit,.int .i64 r_.gap,.int .i64 r_.fr,.int .i64 r_.to_]
abbrev CS (d:Ap):List SC:=[.int .i64 d.holds.a0,.int .i64 d.holds.a1,.int .i64 d.holds.a2,.int .i64 d.holds.a3,.int .i64 d.turns.a0,.int .i64 d.turns.a1,.int .i64 d.turns.a2,.int .i64 d.turns.a3,.bool d.spares.a0,.bool d.spares.a1]
abbrev Rc (f:Option Addr) (r_:Af) (m:Nat) (g:Option Addr) (p:Nat) (l:Option Addr) (q:Nat) (z:Option Addr) (x22:Am) (ac:Nat) (aa:Option Addr) (ad:Nat) (ab:Option Addr) (ae:Nat):List SC:=[.slice f r_.legs.length m,.int .i64 r_.turn.lo,.int .i64 r_.turn.hi,.slice g r_.buses.length p,.slice l r_.spares.length q,.int .i64 r_.unit,.int .i64 r_.gap,.int .i64 r_.fr,.int .i64 r_.to_,.slice z x22.holds.length ac,.slice aa x22.turns.length ad,.slice ab x22.spares.length ae]
abbrev LH (least:Int) (bm_tried:Nat) (f:Option Addr) (r_:Af) (m:Nat) (g:Option Addr) (p:Nat) (l:Option Addr) (q:Nat) (d:Ap) (p1:Bb):List CP:=[⟨[.int .i64 least],some 3⟩,⟨[.map (some bm_tried)],none⟩,⟨LG f r_ m g p l q,none⟩,⟨CS d,some 102⟩,⟨Ob p1,some 104⟩]
set_option maxRecDepth 100000 in
set_option maxHeartbeats 4000000 in
theorem KS (n:Nat) {F:Fr} {h:Ae} {w:World} {b_tried b_r_ b_least:Nat} (d:Ap) {cs_d:List Value} (hx_d:rep h d cs_d) (p1:Bb) {cs_p1:List Value} (hx_p1:rep h p1 cs_p1) (least:Int) (tried:List (Ap×Int)) {bm_tried:Nat} {es_tried:Array MapEntry} {cl_tried:Nat} (hc_tried:AD h b_tried [.map (some bm_tried)]) (hX_tried:F.X bm_tried=some (.map es_tried cl_tried)) (hE_tried:DW h es_tried.toList cl_tried tried) (r_:Af) (hb_r_:CO h b_r_ r_) (hm:Ah F h [(b_least,0)] [⟨[.int .i64 least],some 3⟩] [] w) {r:(List (Ap×Int))×Int} (H:BH n d p1 least tried r_=some r) :
  Calls Try.prog 56 #[.agg cs_d.toArray,.agg cs_p1.toArray,.pointer (some ⟨b_tried,0,none⟩),.pointer (some ⟨b_r_,0,none⟩),.pointer (some ⟨b_least,0,none⟩)] w (RP fun v w'=>∃ (h':Ae)(bi:Array MapEntry)(bf:Nat),Ae.le h h'∧(v=.tuple #[])∧DW h' bi.toList bf r.1∧Ah (Fr.put F bm_tried (some (.map bi bf))) h' [(b_least,0)] [⟨[.int .i64 r.2],some 3⟩] [] w'):=by
 obtain⟨_,_,rfl,⟨_,_,rfl,rfl,⟨_,_,rfl,rfl,⟨_,_,rfl,rfl,rfl⟩⟩⟩,⟨_,_,rfl,⟨_,_,rfl,rfl,⟨_,_,rfl,rfl,⟨_,_,rfl,rfl,rfl⟩⟩⟩,⟨_,_,rfl,rfl,rfl⟩⟩⟩:=hx_d
 obtain⟨_,_,rfl,rfl,rfl⟩:=hx_p1
 obtain⟨_,hx_r_,hc_r_⟩:=id hb_r_
 obtain⟨_,_,rfl,⟨f,m,rfl,aw⟩,⟨_,_,rfl,⟨_,_,rfl,rfl,rfl⟩,⟨_,_,rfl,⟨g,p,rfl,ax⟩,⟨_,_,rfl,⟨l,q,rfl,ay⟩,⟨_,_,rfl,rfl,⟨_,_,rfl,rfl,⟨_,_,rfl,rfl,rfl⟩⟩⟩⟩⟩⟩⟩:=hx_r_
 refine H5 (e:=[(b_least,0),(b_tried,0),(b_r_,0)]) 32 [.agg (CS d),.agg (Ob p1),.c (.ptr 1 0),.c (.ptr 2 0),.c (.ptr 0 0)] Try.func56 rfl rfl rfl rfl fun t hk=>?_
 replace hm:=hm.addPlc (o:=0) (cs:=[.map (some bm_tried)]) (fun j c hj=>by rw [Nat.zero_add]; exact hc_tried j _ (Al hj)) rfl (by kernel_rfl) (by kernel_rfl)
 replace hm:=hm.addPlc (o:=0) (cs:=[.slice f r_.legs.length m,.int .i64 r_.turn.lo,.int .i64 r_.turn.hi,.slice g r_.buses.length p,.slice l r_.spares.length q,.int .i64 r_.unit,.int .i64 r_.gap,.int .i64 r_.fr,.int .i64 r_.to_]) (fun j c hj=>by rw [Nat.zero_add]; exact hc_r_ j _ (Al hj)) rfl (by kernel_rfl) (by kernel_rfl)
 rw [← Fr.put_self hX_tried] at hm
 replace hm:Ah (Fr.put F bm_tried (some (.map es_tried cl_tried))) h [(b_least,0),(b_tried,0),(b_r_,0)] [⟨[.int .i64 least],some 3⟩,⟨[.map (some bm_tried)],none⟩,⟨[.slice f r_.legs.length m,.int .i64 r_.turn.lo,.int .i64 r_.turn.hi,.slice g r_.buses.length p,.slice l r_.spares.length q,.int .i64 r_.unit,.int .i64 r_.gap,.int .i64 r_.fr,.int .i64 r_.to_],none⟩] [] w:=hm
 unfold BH at H
 refine XT (Aa (wl fun K hK=>?_))
 refine wb (.agg (CS d)) hk hm fun a df dq (cl:Kn 32 [(b_least,0),(b_tried,0),(b_r_,0),(a,0)] [tP 5 3 0,tA 0 (CS d),tA 1 (Ob p1),tP 2 1 0,tP 3 2 0,tP 4 0 0] df) (c6:Ah (Fr.put F bm_tried (some (.map es_tried cl_tried))) h [(b_least,0),(b_tried,0),(b_r_,0),(a,0)] [⟨[.int .i64 least],some 3⟩,⟨[.map (some bm_tried)],none⟩,⟨LG f r_ m g p l q,none⟩,⟨CS d,some 102⟩] [] dq)=>hK _ _ ?_
 refine wl fun K hK=>?_
 refine wb (.agg (Ob p1)) cl c6 fun u b3 ds (co:Kn 32 (DD b_least b_tried b_r_ a u) [tP 6 4 0,tP 5 3 0,tA 0 (CS d),tA 1 (Ob p1),tP 2 1 0,tP 3 2 0,tP 4 0 0] b3) (y:Ah (Fr.put F bm_tried (some (.map es_tried cl_tried))) h (DD b_least b_tried b_r_ a u) (LH least bm_tried f r_ m g p l q d p1) [] ds)=>hK _ _ ?_
 have cp:Kn 32 (DD b_least b_tried b_r_ a u) [tP 5 3 0,tP 2 1 0,tP 3 2 0,tP 4 0 0] b3:=co.kp
 refine wf (XT (XT (Aa (Rk 0 2 [tA 11 (CS d),(10,.one (.c (.map (some bm_tried)))),tP 5 3 0,tP 2 1 0,tP 3 2 0,tP 4 0 0] cp y fun d0 cq=>?_))))
 obtain⟨x12,ex12,H⟩:=Aq H
 refine wl fun K hK=>?_
 refine Kj (KT:=102) (E:=3) (k:=(d:Ap)) (0:Int) (.agg (CS d)) cq rfl rfl (by decide) (by rfl) (by rfl) (by kernel_rfl) Ap.KL (y.ext (Fr.put_X _ _ _)) hE_tried rfl (by kernel_rfl) rfl fun d8 bz=>?_
 rw [XZ ex12] at bz ⊢
 obtain rfl:=bz
 refine⟨.tup [.c (.int .i64 x12.1),.c (.bool x12.2)],rfl,fun di (cr:Kn 32 (DD b_least b_tried b_r_ a u) [(12,.tup [.c (.int .i64 x12.1),.c (.bool x12.2)]),tA 11 (CS d),(10,.one (.c (.map (some bm_tried)))),tP 5 3 0,tP 2 1 0,tP 3 2 0,tP 4 0 0] di)=>hK _ _ ?_⟩
 refine Rk 3 5 [tB 8 x12.2,tP 5 3 0,tP 2 1 0,tP 3 2 0,tP 4 0 0] cr y fun d1 ct=>?_
 refine wf (XT (Aa (Rk 0 2 [tB 16 (!x12.2),tP 5 3 0,tP 2 1 0,tP 3 2 0,tP 4 0 0] ct y fun d2 a8=>?_)))
 refine wf (wC ((!x12.2)) a8 (fun a5=>?_) (fun a5=>?_))
 ·
  rw [a5,XW] at H
  refine An (by kernel_rfl) ?_
  replace y:=y.drew
  refine Ao [] (DD b_least b_tried b_r_ a u) (LH least bm_tried f r_ m g p l q d p1) ?_
  refine Dr [0,1,2,3,4] (dn 4) [tA 21 (LG f r_ m g p l q),tA 20 (CS d),tA 19 (LG f r_ m g p l q),tA 18 (CS d),(17,.one (.c (.map (some bm_tried)))),tP 5 3 0,tP 2 1 0,tP 4 0 0] a8 y fun d3 cu=>?_
  obtain⟨x22,ex22,H⟩:=Aq H
  refine Dl 5 fun K hK=>?_
  refine wc [.agg (CS d),.agg (LG f r_ m g p l q)] cu y (CY n y.has d ((Ab (Ab Ac (Ab Ac (Ab Ac Ac))) (Ab (Ab Ac (Ab Ac (Ab Ac Ac))) (Ab Bo Bo))):rep h d _) r_ ((Ab (Ad aw) (Ab (Ab Ac Ac) (Ab (Ad ax) (Ab (Ad ay) (Ab Ac (Ab Ac (Ab Ac Ac))))))):rep h r_ _) ex22) fun d9 cf ef cb ap au=>?_
  replace aw:=aw.mono ap
  replace ax:=ax.mono ap
  replace ay:=ay.mono ap
  obtain⟨_,rfl,⟨_,_,rfl,⟨z,ac,rfl,c8⟩,⟨_,_,rfl,⟨aa,ad,rfl,c9⟩,⟨ab,ae,rfl,da⟩⟩⟩⟩:=cb
  refine⟨.one (.agg [.slice z x22.holds.length ac,.slice aa x22.turns.length ad,.slice ab x22.spares.length ae]),rfl,fun dj (cv:Kn 32 (DD b_least b_tried b_r_ a u) [tA 22 [.slice z x22.holds.length ac,.slice aa x22.turns.length ad,.slice ab x22.spares.length ae],tA 21 (LG f r_ m g p l q),tA 20 (CS d),tA 19 (LG f r_ m g p l q),tA 18 (CS d),(17,.one (.c (.map (some bm_tried)))),tP 5 3 0,tP 2 1 0,tP 4 0 0] dj)=>hK _ _ au.plOk ?_⟩
  refine Dr [6] (dn 6) [tA 23 (Rc f r_ m g p l q z x22 ac aa ad ab ae),tA 18 (CS d),(17,.one (.c (.map (some bm_tried)))),tP 5 3 0,tP 2 1 0,tP 4 0 0] cv au fun d4 cw=>?_
  obtain⟨x24,ex24,H⟩:=Aq H
  refine Dl 7 fun K hK=>?_
  refine wc [.agg (Rc f r_ m g p l q z x22 ac aa ad ab ae)] cw au (Fo n au.has (B3.mk r_ x22) ((Ab (Ab (Ad aw) (Ab (Ab Ac Ac) (Ab (Ad ax) (Ab (Ad ay) (Ab Ac (Ab Ac (Ab Ac Ac))))))) (Ab (Ad c8) (Ab (Ad c9) (Ad da)))):rep cf (B3.mk r_ x22) _) ex24) fun ea dw eg cc bs bc=>?_
  obtain⟨ai,aj,rfl,db⟩:=cc
  refine⟨.one (.c (.slice ai x24.length aj)),rfl,fun dk (cx:Kn 32 (DD b_least b_tried b_r_ a u) [tS 24 ai x24.length aj,tA 23 (Rc f r_ m g p l q z x22 ac aa ad ab ae),tA 18 (CS d),(17,.one (.c (.map (some bm_tried)))),tP 5 3 0,tP 2 1 0,tP 4 0 0] dk)=>hK _ _ bc.plOk ?_⟩
  obtain⟨x25,ex25,H⟩:=Aq H
  refine Dl 8 fun K hK=>?_
  refine wc [.c (.slice ai x24.length aj)] cx bc (LP n bc.has x24 db ex25) fun eb ao eh cd bt bw=>?_
  replace hE_tried:=hE_tried.mono (XU (XU ap bs) bt)
  obtain rfl:=cd
  refine⟨.one (.c (.int .i64 x25)),rfl,fun be (cy:Kn 32 (DD b_least b_tried b_r_ a u) [tI 25 x25,tS 24 ai x24.length aj,tA 23 (Rc f r_ m g p l q z x22 ac aa ad ab ae),tA 18 (CS d),(17,.one (.c (.map (some bm_tried)))),tP 5 3 0,tP 2 1 0,tP 4 0 0] be)=>hK _ _ bw.plOk ?_⟩
  refine Dl 9 fun K hK=>?_
  refine RQ (KT:=102) (E:=3) (k:=(d:Ap)) (x:=(x25:Int)) (.agg (CS d)) (.c (.int .i64 x25)) cy bw rfl rfl (by rfl) (by rfl) (by rfl) (by kernel_rfl) Ap.KL hE_tried rfl rfl fun an al dt aq (cz:Kn 32 (DD b_least b_tried b_r_ a u) [tI 25 x25,tS 24 ai x24.length aj,tA 23 (Rc f r_ m g p l q z x22 ac aa ad ab ae),tA 18 (CS d),(17,.one (.c (.map (some bm_tried)))),tP 5 3 0,tP 2 1 0,tP 4 0 0] be) (ah:Ah (Fr.put F bm_tried (some (.map an al))) ao (DD b_least b_tried b_r_ a u) (LH least bm_tried f r_ m g p l q d p1) [] dt)=>hK _ _ ah.plOk ?_
  have c0:Kn 32 (DD b_least b_tried b_r_ a u) [tP 5 3 0,tP 2 1 0,tP 4 0 0] be:=cz.kp
  refine Ay (by kernel_rfl) (An (by kernel_rfl) ?_)
  replace ah:=ah.drew
  refine Ao [] (DD b_least b_tried b_r_ a u) (LH least bm_tried f r_ m g p l q d p1) ?_
  refine Dr [0,1,2] [2,1,0] [tA 28 (CS d),(27,.one (.c (.map (some bm_tried)))),tI 26 least,tP 4 0 0] c0 ah fun d5 c1=>?_
  obtain⟨x29,ex29,H⟩:=Aq H
  refine Dl 3 fun K hK=>?_
  refine Kj (KT:=102) (E:=3) (k:=(d:Ap)) (0:Int) (.agg (CS d)) c1 rfl rfl (by decide) (by rfl) (by rfl) (by kernel_rfl) Ap.KL (ah.ext (Fr.put_X _ _ _)) aq rfl (by kernel_rfl) rfl fun ec b0=>?_
  rw [XZ ex29] at b0 ⊢
  obtain rfl:=b0
  refine⟨.one (.c (.int .i64 x29.1)),rfl,fun dl (c2:Kn 32 (DD b_least b_tried b_r_ a u) [tI 29 x29.1,tA 28 (CS d),(27,.one (.c (.map (some bm_tried)))),tI 26 least,tP 4 0 0] dl)=>hK _ _ ah.plOk ?_⟩
  refine Dl 4 fun K hK=>?_
  refine wS 3 1 [.int .i64 least,.int .i64 x29.1] c2 ah fun ag dm b5 (c3:Kn 32 (DD b_least b_tried b_r_ a u) [tS 30 ag 2 2,tI 29 x29.1,tA 28 (CS d),(27,.one (.c (.map (some bm_tried)))),tI 26 least,tP 4 0 0] dm) (bd:Ah (Fr.put F bm_tried (some (.map an al))) ao (DD b_least b_tried b_r_ a u) (LH least bm_tried f r_ m g p l q d p1) [⟨ag,2,2,3,1,([.int .i64 least,.int .i64 x29.1]:List Value),0⟩] b5)=>?_
  have a7:Ag ao ([least,x29.1]:List Int) ([.int .i64 least,.int .i64 x29.1]:List Value):=⟨_,_,rfl,(Ac:rep ao (least:Int) _),⟨_,_,rfl,(Ac:rep ao (x29.1:Int) _),rfl⟩⟩
  refine hK _ _ bd.plOk ?_
  obtain⟨bo,ba,de,av⟩:=bd.settle (i:=0) rfl
  replace a7:=a7.mono ba
  replace av:Ah (Fr.put F bm_tried (some (.map an al))) bo (DD b_least b_tried b_r_ a u) (LH least bm_tried f r_ m g p l q d p1) [⟨ag,2,2,3,1,([.int .i64 least,.int .i64 x29.1]:List Value),(([.int .i64 least,.int .i64 x29.1]:List Value):List Value).length⟩] b5:=av
  have dc:A6 bo ag 2 ([least,x29.1]:List Int):=⟨_,a7,de,bd.rowCap (i:=0) rfl⟩
  obtain⟨x31,ex31,H⟩:=Aq H
  refine Dl 5 fun K hK=>?_
  refine wc [.c (.slice ag 2 2)] c3 av (EL n av.has ([least,x29.1]:List Int) dc ex31) fun ed bp ei ce bq bu=>?_
  replace aq:=aq.mono (XU ba bq)
  obtain rfl:=ce
  refine⟨.one (.c (.int .i64 x31)),rfl,fun b1 (cg:Kn 32 (DD b_least b_tried b_r_ a u) [tI 31 x31,tS 30 ag 2 2,tI 29 x29.1,tA 28 (CS d),(27,.one (.c (.map (some bm_tried)))),tI 26 least,tP 4 0 0] b1)=>hK _ _ bu.plOk ?_⟩
  refine D8 6 rfl (by kernel_rfl) (by decide) (rfl) (by kernel_rfl) fun K hK=>?_
  refine G2 0 0 (.c (.int .i64 x31)) [.int .i64 x31] cg bu fun dp ch (c4:Ah (Fr.put F bm_tried (some (.map an al))) bp (DD b_least b_tried b_r_ a u) [⟨[.int .i64 x31],some 3⟩,⟨[.map (some bm_tried)],none⟩,⟨LG f r_ m g p l q,none⟩,⟨CS d,some 102⟩,⟨Ob p1,some 104⟩] [⟨ag,2,2,3,1,([.int .i64 least,.int .i64 x29.1]:List Value),(([.int .i64 least,.int .i64 x29.1]:List Value):List Value).length⟩] dp)=>hK _ _ ?_
  have dx:Kn 32 (DD b_least b_tried b_r_ a u) [] b1:=ch.kp
  refine GB (by kernel_rfl) ?_
  obtain rfl:=XZ H
  exact GC rfl ⟨bp,an,al,XU ap (XU bs (XU bt (XU ba bq))),rfl,aq,(c4.cutRw 0).cutPl 1 (by kernel_rfl)⟩
 ·
  rw [a5,XV] at H
  refine wp_skip (An (by kernel_rfl) ?_)
  replace y:=y.drew
  refine Ao [] (DD b_least b_tried b_r_ a u) (LH least bm_tried f r_ m g p l q d p1) ?_
  refine Dr [0,1,2] [2,1,0] [tA 28 (CS d),(27,.one (.c (.map (some bm_tried)))),tI 26 least,tP 4 0 0] a8 y fun dz ci=>?_
  obtain⟨x29,ex29,H⟩:=Aq H
  refine Dl 3 fun K hK=>?_
  refine Kj (KT:=102) (E:=3) (k:=(d:Ap)) (0:Int) (.agg (CS d)) ci rfl rfl (by decide) (by rfl) (by rfl) (by kernel_rfl) Ap.KL (y.ext (Fr.put_X _ _ _)) hE_tried rfl (by kernel_rfl) rfl fun d6 bx=>?_
  rw [XZ ex29] at bx ⊢
  obtain rfl:=bx
  refine⟨.one (.c (.int .i64 x29.1)),rfl,fun dg (cj:Kn 32 (DD b_least b_tried b_r_ a u) [tI 29 x29.1,tA 28 (CS d),(27,.one (.c (.map (some bm_tried)))),tI 26 least,tP 4 0 0] dg)=>hK _ _ y.plOk ?_⟩
  refine Dl 4 fun K hK=>?_
  refine wS 3 1 [.int .i64 least,.int .i64 x29.1] cj y fun af dh b4 (ck:Kn 32 (DD b_least b_tried b_r_ a u) [tS 30 af 2 2,tI 29 x29.1,tA 28 (CS d),(27,.one (.c (.map (some bm_tried)))),tI 26 least,tP 4 0 0] dh) (bb:Ah (Fr.put F bm_tried (some (.map es_tried cl_tried))) h (DD b_least b_tried b_r_ a u) (LH least bm_tried f r_ m g p l q d p1) [⟨af,2,2,3,1,([.int .i64 least,.int .i64 x29.1]:List Value),0⟩] b4)=>?_
  have a6:Ag h ([least,x29.1]:List Int) ([.int .i64 least,.int .i64 x29.1]:List Value):=⟨_,_,rfl,(Ac:rep h (least:Int) _),⟨_,_,rfl,(Ac:rep h (x29.1:Int) _),rfl⟩⟩
  refine hK _ _ bb.plOk ?_
  obtain⟨bm,a9,dd,ar⟩:=bb.settle (i:=0) rfl
  replace a6:=a6.mono a9
  replace ar:Ah (Fr.put F bm_tried (some (.map es_tried cl_tried))) bm (DD b_least b_tried b_r_ a u) (LH least bm_tried f r_ m g p l q d p1) [⟨af,2,2,3,1,([.int .i64 least,.int .i64 x29.1]:List Value),(([.int .i64 least,.int .i64 x29.1]:List Value):List Value).length⟩] b4:=ar
  have c7:A6 bm af 2 ([least,x29.1]:List Int):=⟨_,a6,dd,bb.rowCap (i:=0) rfl⟩
  obtain⟨x31,ex31,H⟩:=Aq H
  refine Dl 5 fun K hK=>?_
  refine wc [.c (.slice af 2 2)] ck ar (EL n ar.has ([least,x29.1]:List Int) c7 ex31) fun d7 bn ee ca br bv=>?_
  replace hE_tried:=hE_tried.mono (XU a9 br)
  obtain rfl:=ca
  refine⟨.one (.c (.int .i64 x31)),rfl,fun b2 (cm:Kn 32 (DD b_least b_tried b_r_ a u) [tI 31 x31,tS 30 af 2 2,tI 29 x29.1,tA 28 (CS d),(27,.one (.c (.map (some bm_tried)))),tI 26 least,tP 4 0 0] b2)=>hK _ _ bv.plOk ?_⟩
  refine D8 6 rfl (by kernel_rfl) (by decide) (rfl) (by kernel_rfl) fun K hK=>?_
  refine G2 0 0 (.c (.int .i64 x31)) [.int .i64 x31] cm bv fun dr cn (c5:Ah (Fr.put F bm_tried (some (.map es_tried cl_tried))) bn (DD b_least b_tried b_r_ a u) [⟨[.int .i64 x31],some 3⟩,⟨[.map (some bm_tried)],none⟩,⟨LG f r_ m g p l q,none⟩,⟨CS d,some 102⟩,⟨Ob p1,some 104⟩] [⟨af,2,2,3,1,([.int .i64 least,.int .i64 x29.1]:List Value),(([.int .i64 least,.int .i64 x29.1]:List Value):List Value).length⟩] dr)=>hK _ _ ?_
  have dy:Kn 32 (DD b_least b_tried b_r_ a u) [] b2:=cn.kp
  refine GB (by kernel_rfl) ?_
  obtain rfl:=XZ H
  exact GC rfl ⟨bn,es_tried,cl_tried,XU a9 br,rfl,hE_tried,(c5.cutRw 0).cutPl 1 (by kernel_rfl)⟩
theorem Ko {h0:Ae} {b_least bm_tried:Nat}:U1 (DV h0 b_least bm_tried) (Fx b_least bm_tried):=by
 refine⟨fun s F F' h h' hs hle hX hh=>?_,fun s F h hs b hb=>?_⟩
 ·
  obtain⟨h9,⟨d0_1,_⟩,bj,bg,⟨f0,n0⟩,m0,bl,_⟩:=hs
  exact⟨XU h9 hle,⟨d0_1,trivial⟩,bj,bg,⟨(hX _ (.inl rfl)).trans f0,fun o=>Nk (hh _ (.inl rfl) o) (n0 o)⟩,(hX _ (.inr (rfl))).trans m0,bl.mono hle,trivial⟩
 ·
  obtain⟨h9,⟨d0_1,_⟩,bj,bg,⟨f0,n0⟩,m0,bl,_⟩:=hs
  rcases hb with rfl | rfl
  ·
   rw [f0]; rfl
  ·
   rw [m0]; rfl
theorem IY {fw:World} {h:Ae} {Y:Nat→Option Obj} {w:World} {b_least bm_tried:Nat} (s:(List (Ap×Int))×Int) {a4:Array MapEntry} {az:Nat} (b6:DW h a4.toList az s.1) (hX0:Y bm_tried=some (.map a4 az)) (hl:Ah ⟨fw,h,Y⟩ h [(b_least,0)] [⟨[.int .i64 s.2],some 3⟩] [] w) :
  ∃ F1:Fr,Ah F1 h [] [] [] w∧DV h b_least bm_tried s F1 h∧∀ (G:Fr)(h':Ae)(w':World)(s':(List (Ap×Int))×Int),Ae.le h h'→Fr.Sim (Fx b_least bm_tried) F1 G→DV h b_least bm_tried s' G h'→Ah G h' [] [] [] w' →
   ∃ (am:Array MapEntry)(ak:Nat),Ah (Fr.put ⟨fw,h,Y⟩ bm_tried (some (.map am ak))) h' [(b_least,0)] [⟨[.int .i64 s'.2],some 3⟩] [] w'∧DW h' am.toList ak s'.1∧True:=by
 have px0:Y b_least=none:=hl.placeX (i:=0) rfl rfl
 have d0_1:b_least≠bm_tried:=fun e=>by rw [e,hX0] at px0; cases px0
 obtain⟨q0,n0⟩:=Ah.hide (e:=[]) (pl:=[]) (b:=b_least) (T:=3) (cs:=[.int .i64 s.2]) ([.int .i64 s.2]:List Value) hl rfl (by kernel_rfl) rfl
 refine⟨_,q0,⟨Ae.le_refl _,⟨d0_1,trivial⟩,a4,az,⟨Fr.put_X _ _ _,n0⟩,(Fr.put_ne _ _ d0_1.symm).trans hX0,b6,trivial⟩,fun G h' w' s' hle hsim hs' hm'=>?_⟩
 obtain⟨h9,_,am,ak,⟨f0,g0⟩,m0,b7,_⟩:=hs'
 have u0:=Ah.unhide (e:=[]) (pl:=[]) (b:=b_least) (T:=3) (cs:=[.int .i64 s'.2]) ([.int .i64 s'.2]:List Value) hm' f0 g0 rfl (by kernel_rfl) (by kernel_rfl) rfl
 have hF:Fr.put G b_least none=Fr.put ⟨fw,h,Y⟩ bm_tried (some (.map am ak)):=by
  refine Fr.eqOf hsim.w hsim.h fun b=>?_
  by_cases e0:b=b_least
  ·
   subst e0; rw [Fr.put_X,Fr.put_ne _ _ d0_1]; exact px0.symm
  rw [Fr.put_ne _ _ e0]
  by_cases e1:b=bm_tried
  ·
   subst e1; rw [Fr.put_X]; exact m0
  rw [Fr.put_ne _ _ e1]
  refine(hsim.X b (fun hb=>by rcases hb with hb | hb <;> contradiction)).trans ?_
  rw [Fr.put_ne _ _ e0]
 rw [hF] at u0
 exact⟨am,ak,u0,b7,trivial⟩
theorem Kp (n:Nat) {h0:Ae} {b_least bm_tried:Nat} {b_r_:Nat} (r_:Af) (hb_r_:CO h0 b_r_ r_) {b_tried:Nat} (hc_tried:AD h0 b_tried [.map (some bm_tried)]):Tt (DV h0 b_least bm_tried) (Fx b_least bm_tried) (.func (.func 56) #[] #[.pointer (some ⟨b_tried,0,none⟩),.pointer (some ⟨b_r_,0,none⟩),.pointer (some ⟨b_least,0,none⟩)]) (fun s x0 x1=>BH n x0 x1 s.2 s.1 r_):=by
 intro s F h w x0 cs0 hx0 x1 cs1 hx1 s' hs hm H
 obtain⟨h9,⟨d0_1,_⟩,dv,du,⟨f0,n0⟩,m0,b8,_⟩:=hs
 have u0:=Ah.unhide (e:=[]) (pl:=[]) (b:=b_least) (T:=3) (cs:=[.int .i64 s.2]) ([.int .i64 s.2]:List Value) hm f0 n0 rfl (by kernel_rfl) (by kernel_rfl) rfl
 refine⟨56,_,_,rfl,fun _ _=>by kernel_rfl,Calls.mono (KS n x0 hx0 x1 hx1 s.2 s.1 (hc_tried.mono h9) ((Fr.put_ne _ _ d0_1.symm).trans m0) b8 r_ (hb_r_.mono h9) u0 H) ?_⟩
 rintro en w' ⟨v,rfl,h2,bk,bh,hle,rfl,b9,m2⟩
 obtain⟨q0,_⟩:=Ah.hide (e:=[]) (pl:=[]) (b:=b_least) (T:=3) (cs:=[.int .i64 s'.2]) ([.int .i64 s'.2]:List Value) m2 rfl (by kernel_rfl) rfl
 refine⟨_,rfl,rfl,h2,Fr.put (Fr.put (Fr.put F b_least none) bm_tried (some (.map bk bh))) b_least (some (.cells ([.int .i64 s'.2]:List Value).toArray 3 (0,0))),hle,⟨rfl,rfl,fun b hb=>?_⟩,⟨XU h9 hle,⟨d0_1,trivial⟩,bk,bh,⟨Fr.put_X _ _ _,n0⟩,(Fr.put_ne _ _ d0_1.symm).trans (Fr.put_X _ _ _),b9,trivial⟩,q0⟩
 have e0:b≠b_least:=fun e=>hb (.inl e)
 have e1:b≠bm_tried:=fun e=>hb (.inr (e))
 rw [Fr.put_ne _ _ e0,Fr.put_ne _ _ e1,Fr.put_ne _ _ e0]
abbrev S0 (r_:Af):List SC:=[.int .i64 (IntKind.i64.wrap (r_.to_-r_.fr))]
abbrev F7 (b:Option Addr) (r_:Af) (g:Nat) (d:Option Addr) (j:Nat) (f:Option Addr) (k:Nat):List SC:=[.slice b r_.legs.length g,.int .i64 r_.turn.lo,.int .i64 r_.turn.hi,.slice d r_.buses.length j,.slice f r_.spares.length k,.int .i64 r_.unit,.int .i64 r_.gap,.int .i64 r_.fr,.int .i64 r_.to_]
set_option maxRecDepth 100000 in
set_option maxHeartbeats 4000000 in
theorem HX (n:Nat) {h:Ae} {w:World} (hh:Dn h w) (r_:Af) {cs_r_:List Value} (hx_r_:rep h r_ cs_r_) {r:Int×Int} (H:CJ n r_=some r) :
  Calls Try.prog 16 #[.agg cs_r_.toArray] w (Dp (fun h v=>∃ v0 v1,v=.tuple #[v0,v1]∧(v0=.int .i64 r.1)∧(v1=.int .i64 r.2)) h w):=by
 obtain⟨_,_,rfl,⟨b,g,rfl,p⟩,⟨_,_,rfl,⟨_,_,rfl,rfl,rfl⟩,⟨_,_,rfl,⟨d,j,rfl,q⟩,⟨_,_,rfl,⟨f,k,rfl,u⟩,⟨_,_,rfl,rfl,⟨_,_,rfl,rfl,⟨_,_,rfl,rfl,rfl⟩⟩⟩⟩⟩⟩⟩:=hx_r_
 refine enter 22 [.agg (F7 b r_ g d j f k)] Try.func16 rfl rfl rfl rfl fun t hk=>?_
 have hm:=Ah.begin h w hh
 unfold CJ at H
 refine XT (Aa (wl fun K hK=>?_))
 refine wb (.agg (F7 b r_ g d j f k)) hk hm fun a b0 b4 (a9:Kn 22 [(a,0)] [tP 1 0 0,tA 0 (F7 b r_ g d j f k)] b0) (ad:Ah ⟨w,h,Aj⟩ h [(a,0)] [⟨F7 b r_ g d j f k,some 43⟩] [] b4)=>hK _ _ ?_
 refine Rk 1 2 [tP 1 0 0] a9 ad fun ch ba=>?_
 refine wf (XT (XT (Aa (Rk 0 1 [tA 7 (F7 b r_ g d j f k),tP 1 0 0] ba ad fun ci bb=>?_))))
 obtain⟨x8,ex8,H⟩:=Aq H
 refine wl fun K hK=>?_
 refine wc [.agg (F7 b r_ g d j f k)] bb ad (Ea n ad.has r_ ((Ab (Ad p) (Ab (Ab Ac Ac) (Ab (Ad q) (Ab (Ad u) (Ab Ac (Ab Ac (Ab Ac Ac))))))):rep h r_ _) ex8) fun co x b5 ay ai aa=>?_
 replace p:=p.mono ai
 replace q:=q.mono ai
 replace u:=u.mono ai
 obtain rfl:=ay
 refine⟨.one (.c (.int .i64 x8)),rfl,fun b1 (bc:Kn 22 [(a,0)] [tI 8 x8,tA 7 (F7 b r_ g d j f k),tP 1 0 0] b1)=>hK _ _ ?_⟩
 refine Rk 2 1 [tI 4 x8,tP 1 0 0] bc aa fun cj bd=>?_
 refine wf (XT (Aa (Rk 0 2 [tB 10 (x8 != 0),tI 4 x8,tP 1 0 0] bd aa fun ck ah=>?_)))
 refine wf (wC ((x8 != 0)) ah (fun af=>?_) (fun af=>?_))
 ·
  rw [af,XW] at H
  refine XT (Aa (Rk 0 3 [tI 3 x8,tI 2 0] ah aa fun cl be=>?_))
  refine wf (wp_ret ?_)
  obtain rfl:=XZ H
  exact rt (.tup [.c (.int .i64 0),.c (.int .i64 x8)]) be aa ⟨_,_,rfl,rfl,rfl⟩
 ·
  rw [af,XV] at H
  refine wp_skip (XT (Aa (wl fun K hK=>?_)))
  refine NV ah aa rfl rfl (by decide) fun m b2 ce (bf:Kn 22 [(a,0)] [(12,.one (.c (.map (some m)))),tB 10 (x8 != 0),tI 4 x8,tP 1 0 0] b2) (bs:Ah (Fr.put ⟨w,h,Aj⟩ m (some (.map #[] 0))) x [(a,0)] [⟨F7 b r_ g d j f k,some 43⟩] [] (World.alloc b5 (.map #[] 0)))=>?_
  have ae:DW x (#[]:Array MapEntry).toList 0 ([]:List (Ap×Int)):=DW.nil
  refine hK _ _ ?_
  refine wl fun K hK=>?_
  refine wa [.map none] bf bs fun l ar b6 (bg:Kn 22 [(a,0),(l,0)] [tP 5 1 0,(12,.one (.c (.map (some m)))),tB 10 (x8 != 0),tI 4 x8,tP 1 0 0] ar) (bt:Ah (Fr.put ⟨w,h,Aj⟩ m (some (.map #[] 0))) x [(a,0),(l,0)] [⟨F7 b r_ g d j f k,some 43⟩,⟨[.map none],some 111⟩] [] b6)=>hK _ _ ?_
  refine wl fun K hK=>?_
  refine G2 1 0 (.c (.map (some m))) [.map (some m)] bg bt fun b7 bh (ap:Ah (Fr.put ⟨w,h,Aj⟩ m (some (.map #[] 0))) x [(a,0),(l,0)] [⟨F7 b r_ g d j f k,some 43⟩,⟨[.map (some m)],some 111⟩] [] b7)=>hK _ _ ?_
  have bi:Kn 22 [(a,0),(l,0)] [tP 5 1 0,tP 1 0 0] ar:=bh.kp
  refine wf (XT (Aa (Rk 0 5 [tI 17 (IntKind.i64.wrap (r_.to_-r_.fr)),tP 5 1 0,tP 1 0 0] bi ap fun cm bj=>?_)))
  refine wl fun K hK=>?_
  refine wa [.int .i64 0] bj ap fun o au b8 (bk:Kn 22 [(a,0),(l,0),(o,0)] [tP 6 2 0,tI 17 (IntKind.i64.wrap (r_.to_-r_.fr)),tP 5 1 0,tP 1 0 0] au) (bu:Ah (Fr.put ⟨w,h,Aj⟩ m (some (.map #[] 0))) x [(a,0),(l,0),(o,0)] [⟨F7 b r_ g d j f k,some 43⟩,⟨[.map (some m)],some 111⟩,⟨[.int .i64 0],some 3⟩] [] b8)=>hK _ _ ?_
  refine wl fun K hK=>?_
  refine G2 2 0 (.c (.int .i64 (IntKind.i64.wrap (r_.to_-r_.fr)))) (S0 r_) bk bu fun al bl (aq:Ah (Fr.put ⟨w,h,Aj⟩ m (some (.map #[] 0))) x [(a,0),(l,0),(o,0)] [⟨F7 b r_ g d j f k,some 43⟩,⟨[.map (some m)],some 111⟩,⟨S0 r_,some 3⟩] [] al)=>hK _ _ ?_
  have bm:Kn 22 [(a,0),(l,0),(o,0)] [tP 6 2 0,tP 5 1 0,tP 1 0 0] au:=bl.kp
  refine wf (XT (Aa (Rk 0 1 [tA 18 (F7 b r_ g d j f k),tP 6 2 0,tP 5 1 0,tP 1 0 0] bm aq fun cn bn=>?_)))
  obtain⟨am,ac,a6,aj⟩:=aq.settlePlc (i:=1) rfl
  replace aj:Ah (Fr.put ⟨w,h,Aj⟩ m (some (.map #[] 0))) am [(a,0),(l,0),(o,0)] [⟨F7 b r_ g d j f k,some 43⟩,⟨[.map (some m)],none⟩,⟨S0 r_,some 3⟩] [] al:=aj
  have ag:AD am l [.map (some m)]:=AD.of (e:=[(a,0),(l,0),(o,0)]) (cs:=[.map (some m)]) rfl a6
  obtain⟨y,z,an,ak⟩:=aj.settlePlc (i:=0) rfl
  replace p:=p.mono (XU ac z)
  replace q:=q.mono (XU ac z)
  replace u:=u.mono (XU ac z)
  replace ag:=ag.mono z
  replace ae:=ae.mono (XU ac z)
  replace ak:Ah (Fr.put ⟨w,h,Aj⟩ m (some (.map #[] 0))) y [(a,0),(l,0),(o,0)] [⟨F7 b r_ g d j f k,none⟩,⟨[.map (some m)],none⟩,⟨S0 r_,some 3⟩] [] al:=ak
  have a4:CO y a (r_:Af):=CO.of (e:=[(a,0),(l,0),(o,0)]) (cs:=(F7 b r_ g d j f k)) ((Ab (Ad p) (Ab (Ab Ac Ac) (Ab (Ad q) (Ab (Ad u) (Ab Ac (Ab Ac (Ab Ac Ac))))))):rep y (r_:Af) _) rfl an
  have cf:AD y a [.slice b r_.legs.length g,.int .i64 r_.turn.lo,.int .i64 r_.turn.hi,.slice d r_.buses.length j,.slice f r_.spares.length k,.int .i64 r_.unit,.int .i64 r_.gap,.int .i64 r_.fr,.int .i64 r_.to_]:=AD.of (e:=[(a,0),(l,0),(o,0)]) (cs:=[.slice b r_.legs.length g,.int .i64 r_.turn.lo,.int .i64 r_.turn.hi,.slice d r_.buses.length j,.slice f r_.spares.length k,.int .i64 r_.unit,.int .i64 r_.gap,.int .i64 r_.fr,.int .i64 r_.to_]) rfl an
  refine H6 1 #[] #[.pointer (some ⟨l,0,none⟩),.pointer (some ⟨a,0,none⟩),.pointer (some ⟨o,0,none⟩)] bn rfl rfl (rfl) rfl (by decide) (by rfl) (by rfl) (by rfl) (by rfl) fun b3 (bo:Kn 22 [(a,0),(l,0),(o,0)] [(19,.one (.c (.func (.func 56) #[] #[.pointer (some ⟨l,0,none⟩),.pointer (some ⟨a,0,none⟩),.pointer (some ⟨o,0,none⟩)]))),tA 18 (F7 b r_ g d j f k),tP 6 2 0,tP 5 1 0,tP 1 0 0] b3)=>?_
  obtain⟨x20,ex20,H⟩:=Aq H
  obtain⟨cc,a2,bq,bx⟩:=ak.lend1 m (Fr.put_X _ _ _) [2] [] (by kernel_rfl) (by kernel_rfl) (by kernel_rfl) (by kernel_rfl)
  obtain⟨ca,br,az,a5⟩:=IY (([]:List (Ap×Int)),IntKind.i64.wrap (r_.to_-r_.fr)) ae (a2 _ _ (Fr.put_X _ _ _)) bq
  refine wl fun K hK=>?_
  refine QT [.agg (F7 b r_ g d j f k),.c (.func (.func 56) #[] #[.pointer (some ⟨l,0,none⟩),.pointer (some ⟨a,0,none⟩),.pointer (some ⟨o,0,none⟩)])] _ bo rfl rfl (by decide) (by rfl) rfl (fun _ _=>by kernel_rfl) (FE n Ko (fun s y0 y1=>BH n y0 y1 s.2 s.1 r_) (Kp n r_ a4 ag) r_ ((Ab (Ad p) (Ab (Ab Ac Ac) (Ab (Ad q) (Ab (Ad u) (Ab Ac (Ab Ac (Ab Ac Ac))))))):rep y r_ _) (([]:List (Ap×Int)),IntKind.i64.wrap (r_.to_-r_.fr)) az br ex20) fun cp b9 a0=>?_
  obtain⟨rfl,a3,cb,ao,bz,a1,bv⟩:=a0
  obtain⟨ax,aw,bw,cd,_⟩:=a5 _ _ _ _ ao bz a1 bv
  have ab:=bx _ _ _ _ [] ao rfl (Nat.le_refl _) (by kernel_rfl) bw
  rw [Fr.put_put] at ab
  replace ab:Ah (Fr.put ⟨w,h,Aj⟩ m (some (.map ax aw))) a3 [(a,0),(l,0),(o,0)] [⟨[.slice b r_.legs.length g,.int .i64 r_.turn.lo,.int .i64 r_.turn.hi,.slice d r_.buses.length j,.slice f r_.spares.length k,.int .i64 r_.unit,.int .i64 r_.gap,.int .i64 r_.fr,.int .i64 r_.to_],none⟩,⟨[.map (some m)],none⟩,⟨[.int .i64 x20.2],some 3⟩] [] b9:=ab
  refine⟨.tup [],rfl,fun av (bp:Kn 22 [(a,0),(l,0),(o,0)] [(20,.tup []),(19,.one (.c (.func (.func 56) #[] #[.pointer (some ⟨l,0,none⟩),.pointer (some ⟨a,0,none⟩),.pointer (some ⟨o,0,none⟩)]))),tA 18 (F7 b r_ g d j f k),tP 6 2 0,tP 5 1 0,tP 1 0 0] av)=>hK _ _ ?_⟩
  have a7:Kn 22 [(a,0),(l,0),(o,0)] [tP 6 2 0] av:=bp.kp
  refine wf (XT (Aa (Rk 0 3 [tI 3 0,tI 2 x20.2] a7 ab fun cg a8=>?_)))
  refine wf (wp_ret ?_)
  obtain rfl:=XZ H
  exact rt (.tup [.c (.int .i64 x20.2),.c (.int .i64 0)]) a8 ab ⟨_,_,rfl,rfl,rfl⟩
end Go.Proofs.Ytokchpjijlebiaa
