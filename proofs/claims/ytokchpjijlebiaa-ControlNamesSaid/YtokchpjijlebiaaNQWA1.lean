/- Each call computes its plain function. -/
import Derived.Test.YtokchpjijlebiaaProg
import Derived.Test.YtokchpjijlebiaaNQP0
import Derived.Test.YtokchpjijlebiaaNQWQ
import Derived.Test.YtokchpjijlebiaaNQWR
import Derived.Test.YtokchpjijlebiaaNQWT
import Derived.Test.YtokchpjijlebiaaNQWX
import Derived.Test.YtokchpjijlebiaaNQWY
set_option linter.all false
namespace Go.Proofs.Ytokchpjijlebiaa
open Go Go.RowKit
open Rep (rep)
open KRep (kv)
open VRep (rv)
theorem Aw.KL:KL Try.prog 102 Aw:=by
  refine KL.struct 5 (by decide) (fun x=>[.int .i64 x.holds.a0,.int .i64 x.holds.a1,.int .i64 x.holds.a2,.int .i64 x.holds.a3,.int .i64 x.turns.a0,.int .i64 x.turns.a1,.int .i64 x.turns.a2,.int .i64 x.turns.a3,.bool x.spares.a0,.bool x.spares.a1]) (fun _=>rfl) (by kernel_rfl) (fun _=>by kernel_rfl) (fun _=>by kernel_rfl) fun a b=>⟨((a.holds.a0 == b.holds.a0) && ((a.holds.a1 == b.holds.a1) && ((a.holds.a2 == b.holds.a2) && ((a.holds.a3 == b.holds.a3) && true)))) && (((a.turns.a0 == b.turns.a0) && ((a.turns.a1 == b.turns.a1) && ((a.turns.a2 == b.turns.a2) && ((a.turns.a3 == b.turns.a3) && true)))) && (((a.spares.a0 == b.spares.a0) && ((a.spares.a1 == b.spares.a1) && true)) && true)),by kernel_rfl,?_⟩
  rcases a with⟨⟨a0,a1,a2,a3⟩,⟨a4,a5,a6,a7⟩,⟨a8,a9⟩⟩
  rcases b with⟨⟨b0,b1,b2,b3⟩,⟨b4,b5,b6,b7⟩,⟨b8,b9⟩⟩
  simp [and_assoc]
abbrev MJ (p1:BN):List SC:=[.int .i64 p1.number,.int .i64 p1.sum]
abbrev DR (b_least b_tried b_r_ a m:Nat):AG:=[(b_least,0),(b_tried,0),(b_r_,0),(a,0),(m,0)]
abbrev Lu (f:Option Addr) (r_:Ag) (p:Nat) (g:Option Addr) (q:Nat) (l:Option Addr) (u:Nat):List SC:=[.slice f r_.legs.length p,.int .i64 r_.turn.lo,.int .i64 r_.turn.hi,.slice g r_.buses.length q,.slice l r_.spares.length u,.int .i64 r_.unit,.int .i64 r_.gap,.int .i64 r_.fr,.int .i64 r_.to_]
abbrev CV (d:Aw):List SC:=[.int .i64 d.holds.a0,.int .i64 d.holds.a1,.int .i64 d.holds.a2,.int .i64 d.holds.a3,.int .i64 d.turns.a0,.int .i64 d.turns.a1,.int .i64 d.turns.a2,.int .i64 d.turns.a3,.bool d.spares.a0,.bool d.spares.a1]
abbrev MK (f:Option Addr) (r_:Ag) (p:Nat) (g:Option Addr) (q:Nat) (l:Option Addr) (u:Nat) (z:Option Addr) (x22:A0) (ac:Nat) (aa:Option Addr) (ad:Nat) (ab:Option Addr) (ae:Nat):List SC:=[.slice f r_.legs.length p,.int .i64 r_.turn.lo,.int .i64 r_.turn.hi,.slice g r_.buses.length q,.slice l r_.spares.length u,.int .i64 r_.unit,.int .i64 r_.gap,.int .i64 r_.fr,.int .i64 r_.to_,.slice z x22.holds.length ac,.slice aa x22.turns.length ad,.slice ab x22.spares.length ae]
abbrev Lv (least:Int) (bm_tried:Nat) (f:Option Addr) (r_:Ag) (p:Nat) (g:Option Addr) (q:Nat) (l:Option Addr) (u:Nat) (d:Aw) (p1:BN):List Cu:=[⟨[.int .i64 least],some 3⟩,⟨[.map (some bm_tried)],none⟩,⟨Lu f r_ p g q l u,none⟩,⟨CV d,some 102⟩,⟨MJ p1,some 104⟩]
set_option maxRecDepth 100000 in
set_option maxHeartbeats 4000000 in
theorem Ic (n:Nat) {F:Fr} {h:Ad} {w:World} {b_tried b_r_ b_least:Nat} (d:Aw) {cs_d:List Value} (hx_d:rep h d cs_d) (p1:BN) {cs_p1:List Value} (hx_p1:rep h p1 cs_p1) (least:Int) (tried:List (Aw×Int)) {bm_tried:Nat} {es_tried:Array MapEntry} {cl_tried:Nat} (hc_tried:A8 h b_tried [.map (some bm_tried)]) (hX_tried:F.X bm_tried=some (.map es_tried cl_tried)) (hE_tried:Du h es_tried.toList cl_tried tried) (r_:Ag) (hb_r_:Cv h b_r_ r_) (hm:Ah F h [(b_least,0)] [⟨[.int .i64 least],some 3⟩] [] w) {r:(List (Aw×Int))×Int} (H:Dy n d p1 least tried r_=some r) :
  Calls Try.prog 56 #[.agg cs_d.toArray,.agg cs_p1.toArray,.pointer (some ⟨b_tried,0,none⟩),.pointer (some ⟨b_r_,0,none⟩),.pointer (some ⟨b_least,0,none⟩)] w (Nw fun v w'=>∃ (h':Ad)(bi:Array MapEntry)(bf:Nat),Ad.le h h'∧(v=.tuple #[])∧Du h' bi.toList bf r.1∧Ah (Fr.put F bm_tried (some (.map bi bf))) h' [(b_least,0)] [⟨[.int .i64 r.2],some 3⟩] [] w'):=by
 obtain⟨_,_,rfl,⟨_,_,rfl,rfl,⟨_,_,rfl,rfl,⟨_,_,rfl,rfl,rfl⟩⟩⟩,⟨_,_,rfl,⟨_,_,rfl,rfl,⟨_,_,rfl,rfl,⟨_,_,rfl,rfl,rfl⟩⟩⟩,⟨_,_,rfl,rfl,rfl⟩⟩⟩:=hx_d
 obtain⟨_,_,rfl,rfl,rfl⟩:=hx_p1
 obtain⟨_,hx_r_,hc_r_⟩:=id hb_r_
 obtain⟨_,_,rfl,⟨f,p,rfl,au⟩,⟨_,_,rfl,⟨_,_,rfl,rfl,rfl⟩,⟨_,_,rfl,⟨g,q,rfl,av⟩,⟨_,_,rfl,⟨l,u,rfl,aw⟩,⟨_,_,rfl,rfl,⟨_,_,rfl,rfl,⟨_,_,rfl,rfl,rfl⟩⟩⟩⟩⟩⟩⟩:=hx_r_
 refine FN (e:=[(b_least,0),(b_tried,0),(b_r_,0)]) 32 [.agg (CV d),.agg (MJ p1),.c (.ptr 1 0),.c (.ptr 2 0),.c (.ptr 0 0)] Try.func56 rfl rfl rfl rfl fun t hk=>?_
 replace hm:=hm.addPlc (o:=0) (cs:=[.map (some bm_tried)]) (fun j c hj=>by rw [Nat.zero_add]; exact hc_tried j _ (Al hj)) rfl (by kernel_rfl) (by kernel_rfl)
 replace hm:=hm.addPlc (o:=0) (cs:=[.slice f r_.legs.length p,.int .i64 r_.turn.lo,.int .i64 r_.turn.hi,.slice g r_.buses.length q,.slice l r_.spares.length u,.int .i64 r_.unit,.int .i64 r_.gap,.int .i64 r_.fr,.int .i64 r_.to_]) (fun j c hj=>by rw [Nat.zero_add]; exact hc_r_ j _ (Al hj)) rfl (by kernel_rfl) (by kernel_rfl)
 rw [← Fr.put_self hX_tried] at hm
 replace hm:Ah (Fr.put F bm_tried (some (.map es_tried cl_tried))) h [(b_least,0),(b_tried,0),(b_r_,0)] [⟨[.int .i64 least],some 3⟩,⟨[.map (some bm_tried)],none⟩,⟨[.slice f r_.legs.length p,.int .i64 r_.turn.lo,.int .i64 r_.turn.hi,.slice g r_.buses.length q,.slice l r_.spares.length u,.int .i64 r_.unit,.int .i64 r_.gap,.int .i64 r_.fr,.int .i64 r_.to_],none⟩] [] w:=hm
 unfold Dy at H
 refine QT (Ab (wl fun K hK=>?_))
 refine wb (.agg (CV d)) hk hm fun a dd eb (cj:Kn 32 [(b_least,0),(b_tried,0),(b_r_,0),(a,0)] [tP 5 3 0,tA 0 (CV d),tA 1 (MJ p1),tP 2 1 0,tP 3 2 0,tP 4 0 0] dd) c4=>hK _ _ ?_
 refine wl fun K hK=>?_
 refine wb (.agg (MJ p1)) cj c4 fun m b1 ee (cm:Kn 32 (DR b_least b_tried b_r_ a m) [tP 6 4 0,tP 5 3 0,tA 0 (CV d),tA 1 (MJ p1),tP 2 1 0,tP 3 2 0,tP 4 0 0] b1) y=>hK _ _ ?_
 have cn:Kn 32 (DR b_least b_tried b_r_ a m) [tP 5 3 0,tP 2 1 0,tP 3 2 0,tP 4 0 0] b1:=cm.kp
 refine wf (QT (QT (Ab (Rk 0 2 [tA 11 (CV d),(10,.one (.c (.map (some bm_tried)))),tP 5 3 0,tP 2 1 0,tP 3 2 0,tP 4 0 0] cn y fun dw co=>?_))))
 obtain⟨x12,ex12,H⟩:=A3 H
 refine wl fun K hK=>?_
 refine Gc (KT:=102) (E:=3) (k:=(d:Aw)) (0:Int) (.agg (CV d)) co rfl rfl (by decide) (by rfl) (by rfl) (by kernel_rfl) Aw.KL (y.ext (Fr.put_X _ _ _)) hE_tried rfl (by kernel_rfl) rfl fun d4 bw=>?_
 rw [QZ ex12] at bw ⊢
 obtain rfl:=bw
 refine⟨.tup [.c (.int .i64 x12.1),.c (.bool x12.2)],rfl,fun dg (cp:Kn 32 (DR b_least b_tried b_r_ a m) [(12,.tup [.c (.int .i64 x12.1),.c (.bool x12.2)]),tA 11 (CV d),(10,.one (.c (.map (some bm_tried)))),tP 5 3 0,tP 2 1 0,tP 3 2 0,tP 4 0 0] dg)=>hK _ _ ?_⟩
 refine Rk 3 5 [tB 8 x12.2,tP 5 3 0,tP 2 1 0,tP 3 2 0,tP 4 0 0] cp y fun dx cq=>?_
 refine wf (QT (Ab (Rk 0 2 [tB 16 (!x12.2),tP 5 3 0,tP 2 1 0,tP 3 2 0,tP 4 0 0] cq y fun dy a8=>?_)))
 refine wf (wC ((!x12.2)) a8 (fun a5=>?_) (fun a5=>?_))
 ·
  rw [a5,QW] at H
  refine Ao (by kernel_rfl) ?_
  replace y:=y.drew
  refine At [] (DR b_least b_tried b_r_ a m) (Lv least bm_tried f r_ p g q l u d p1) ?_
  refine Dr [0,1,2,3,4] (dn 4) [tA 21 (Lu f r_ p g q l u),tA 20 (CV d),tA 19 (Lu f r_ p g q l u),tA 18 (CV d),(17,.one (.c (.map (some bm_tried)))),tP 5 3 0,tP 2 1 0,tP 4 0 0] a8 y fun dz cr=>?_
  obtain⟨x22,ex22,H⟩:=A3 H
  refine Dl 5 fun K hK=>?_
  refine wc [.agg (CV d),.agg (Lu f r_ p g q l u)] cr y (CB n y.has d ((Aa (Aa Ac (Aa Ac (Aa Ac Ac))) (Aa (Aa Ac (Aa Ac (Aa Ac Ac))) (Aa AS AS))):rep h d _) r_ ((Aa (Ae au) (Aa (Aa Ac Ac) (Aa (Ae av) (Aa (Ae aw) (Aa Ac (Aa Ac (Aa Ac Ac))))))):rep h r_ _) ex22) fun d5 cc ef b7 am aq=>?_
  replace au:=au.mono am
  replace av:=av.mono am
  replace aw:=aw.mono am
  obtain⟨_,rfl,⟨_,_,rfl,⟨z,ac,rfl,c6⟩,⟨_,_,rfl,⟨aa,ad,rfl,c7⟩,⟨ab,ae,rfl,c8⟩⟩⟩⟩:=b7
  refine⟨.one (.agg [.slice z x22.holds.length ac,.slice aa x22.turns.length ad,.slice ab x22.spares.length ae]),rfl,fun dh (ct:Kn 32 (DR b_least b_tried b_r_ a m) [tA 22 [.slice z x22.holds.length ac,.slice aa x22.turns.length ad,.slice ab x22.spares.length ae],tA 21 (Lu f r_ p g q l u),tA 20 (CV d),tA 19 (Lu f r_ p g q l u),tA 18 (CV d),(17,.one (.c (.map (some bm_tried)))),tP 5 3 0,tP 2 1 0,tP 4 0 0] dh)=>hK _ _ aq.plOk ?_⟩
  refine Dr [6] (dn 6) [tA 23 (MK f r_ p g q l u z x22 ac aa ad ab ae),tA 18 (CV d),(17,.one (.c (.map (some bm_tried)))),tP 5 3 0,tP 2 1 0,tP 4 0 0] ct aq fun d0 cu=>?_
  obtain⟨x24,ex24,H⟩:=A3 H
  refine Dl 7 fun K hK=>?_
  refine wc [.agg (MK f r_ p g q l u z x22 ac aa ad ab ae)] cu aq (Es n aq.has (AC.mk r_ x22) ((Aa (Aa (Ae au) (Aa (Aa Ac Ac) (Aa (Ae av) (Aa (Ae aw) (Aa Ac (Aa Ac (Aa Ac Ac))))))) (Aa (Ae c6) (Aa (Ae c7) (Ae c8)))):rep cc (AC.mk r_ x22) _) ex24) fun d6 ds eg b8 bq bc=>?_
  obtain⟨ah,aj,rfl,c9⟩:=b8
  refine⟨.one (.c (.slice ah x24.length aj)),rfl,fun di (cv:Kn 32 (DR b_least b_tried b_r_ a m) [tS 24 ah x24.length aj,tA 23 (MK f r_ p g q l u z x22 ac aa ad ab ae),tA 18 (CV d),(17,.one (.c (.map (some bm_tried)))),tP 5 3 0,tP 2 1 0,tP 4 0 0] di)=>hK _ _ bc.plOk ?_⟩
  obtain⟨x25,ex25,H⟩:=A3 H
  refine Dl 8 fun K hK=>?_
  refine wc [.c (.slice ah x24.length aj)] cv bc (FI n bc.has x24 c9 ex25) fun d7 ao eh b9 br bu=>?_
  replace hE_tried:=hE_tried.mono (QU (QU am bq) br)
  obtain rfl:=b9
  refine⟨.one (.c (.int .i64 x25)),rfl,fun be (cw:Kn 32 (DR b_least b_tried b_r_ a m) [tI 25 x25,tS 24 ah x24.length aj,tA 23 (MK f r_ p g q l u z x22 ac aa ad ab ae),tA 18 (CV d),(17,.one (.c (.map (some bm_tried)))),tP 5 3 0,tP 2 1 0,tP 4 0 0] be)=>hK _ _ bu.plOk ?_⟩
  refine Dl 9 fun K hK=>?_
  refine Nx (KT:=102) (E:=3) (k:=(d:Aw)) (x:=(x25:Int)) (.agg (CV d)) (.c (.int .i64 x25)) cw bu rfl rfl (by rfl) (by rfl) (by rfl) (by kernel_rfl) Aw.KL hE_tried rfl rfl fun a4 ay dm an (cx:Kn 32 (DR b_least b_tried b_r_ a m) [tI 25 x25,tS 24 ah x24.length aj,tA 23 (MK f r_ p g q l u z x22 ac aa ad ab ae),tA 18 (CV d),(17,.one (.c (.map (some bm_tried)))),tP 5 3 0,tP 2 1 0,tP 4 0 0] be) (af:Ah (Fr.put F bm_tried (some (.map a4 ay))) ao (DR b_least b_tried b_r_ a m) (Lv least bm_tried f r_ p g q l u d p1) [] dm)=>hK _ _ af.plOk ?_
  have cy:Kn 32 (DR b_least b_tried b_r_ a m) [tP 5 3 0,tP 2 1 0,tP 4 0 0] be:=cx.kp
  refine AH (by kernel_rfl) (Ao (by kernel_rfl) ?_)
  replace af:=af.drew
  refine At [] (DR b_least b_tried b_r_ a m) (Lv least bm_tried f r_ p g q l u d p1) ?_
  refine Dr [0,1,2] [2,1,0] [tA 28 (CV d),(27,.one (.c (.map (some bm_tried)))),tI 26 least,tP 4 0 0] cy af fun d1 cz=>?_
  obtain⟨x29,ex29,H⟩:=A3 H
  refine Dl 3 fun K hK=>?_
  refine Gc (KT:=102) (E:=3) (k:=(d:Aw)) (0:Int) (.agg (CV d)) cz rfl rfl (by decide) (by rfl) (by rfl) (by kernel_rfl) Aw.KL (af.ext (Fr.put_X _ _ _)) an rfl (by kernel_rfl) rfl fun d8 bx=>?_
  rw [QZ ex29] at bx ⊢
  obtain rfl:=bx
  refine⟨.one (.c (.int .i64 x29.1)),rfl,fun dj (c0:Kn 32 (DR b_least b_tried b_r_ a m) [tI 29 x29.1,tA 28 (CV d),(27,.one (.c (.map (some bm_tried)))),tI 26 least,tP 4 0 0] dj)=>hK _ _ af.plOk ?_⟩
  refine Dl 4 fun K hK=>?_
  refine wS 3 1 [.int .i64 least,.int .i64 x29.1] c0 af fun ai dk dp (c1:Kn 32 (DR b_least b_tried b_r_ a m) [tS 30 ai 2 2,tI 29 x29.1,tA 28 (CV d),(27,.one (.c (.map (some bm_tried)))),tI 26 least,tP 4 0 0] dk) bd=>?_
  have a7:Af ao ([least,x29.1]:List Int) ([.int .i64 least,.int .i64 x29.1]:List Value):=⟨_,_,rfl,(Ac:rep ao (least:Int) _),⟨_,_,rfl,(Ac:rep ao (x29.1:Int) _),rfl⟩⟩
  refine hK _ _ bd.plOk ?_
  obtain⟨bn,ba,dc,ar⟩:=bd.settle (i:=0) rfl
  replace a7:=a7.mono ba
  replace ar:Ah (Fr.put F bm_tried (some (.map a4 ay))) bn (DR b_least b_tried b_r_ a m) (Lv least bm_tried f r_ p g q l u d p1) [⟨ai,2,2,3,1,([.int .i64 least,.int .i64 x29.1]:List Value),(([.int .i64 least,.int .i64 x29.1]:List Value):List Value).length⟩] dp:=ar
  have da:Ar bn ai 2 ([least,x29.1]:List Int):=⟨_,a7,dc,bd.rowCap (i:=0) rfl⟩
  obtain⟨x31,ex31,H⟩:=A3 H
  refine Dl 5 fun K hK=>?_
  refine wc [.c (.slice ai 2 2)] c1 ar (DW n ar.has ([least,x29.1]:List Int) da ex31) fun d9 cd ei ca bo bs=>?_
  replace an:=an.mono (QU ba bo)
  obtain rfl:=ca
  refine⟨.one (.c (.int .i64 x31)),rfl,fun bz (ce:Kn 32 (DR b_least b_tried b_r_ a m) [tI 31 x31,tS 30 ai 2 2,tI 29 x29.1,tA 28 (CV d),(27,.one (.c (.map (some bm_tried)))),tI 26 least,tP 4 0 0] bz)=>hK _ _ bs.plOk ?_⟩
  refine DG 6 rfl (by kernel_rfl) (by decide) (rfl) (by kernel_rfl) fun K hK=>?_
  refine Ea 0 0 (.c (.int .i64 x31)) [.int .i64 x31] ce bs fun ea cf c2=>hK _ _ ?_
  have dt:Kn 32 (DR b_least b_tried b_r_ a m) [] bz:=cf.kp
  refine FA (by kernel_rfl) ?_
  obtain rfl:=QZ H
  exact Fs rfl ⟨cd,a4,ay,QU am (QU bq (QU br (QU ba bo))),rfl,an,(c2.cutRw 0).cutPl 1 (by kernel_rfl)⟩
 ·
  rw [a5,QV] at H
  refine wp_skip (Ao (by kernel_rfl) ?_)
  replace y:=y.drew
  refine At [] (DR b_least b_tried b_r_ a m) (Lv least bm_tried f r_ p g q l u d p1) ?_
  refine Dr [0,1,2] [2,1,0] [tA 28 (CV d),(27,.one (.c (.map (some bm_tried)))),tI 26 least,tP 4 0 0] a8 y fun dv cg=>?_
  obtain⟨x29,ex29,H⟩:=A3 H
  refine Dl 3 fun K hK=>?_
  refine Gc (KT:=102) (E:=3) (k:=(d:Aw)) (0:Int) (.agg (CV d)) cg rfl rfl (by decide) (by rfl) (by rfl) (by kernel_rfl) Aw.KL (y.ext (Fr.put_X _ _ _)) hE_tried rfl (by kernel_rfl) rfl fun d2 bv=>?_
  rw [QZ ex29] at bv ⊢
  obtain rfl:=bv
  refine⟨.one (.c (.int .i64 x29.1)),rfl,fun de (ch:Kn 32 (DR b_least b_tried b_r_ a m) [tI 29 x29.1,tA 28 (CV d),(27,.one (.c (.map (some bm_tried)))),tI 26 least,tP 4 0 0] de)=>hK _ _ y.plOk ?_⟩
  refine Dl 4 fun K hK=>?_
  refine wS 3 1 [.int .i64 least,.int .i64 x29.1] ch y fun ag df dl (ci:Kn 32 (DR b_least b_tried b_r_ a m) [tS 30 ag 2 2,tI 29 x29.1,tA 28 (CV d),(27,.one (.c (.map (some bm_tried)))),tI 26 least,tP 4 0 0] df) bb=>?_
  have a6:Af h ([least,x29.1]:List Int) ([.int .i64 least,.int .i64 x29.1]:List Value):=⟨_,_,rfl,(Ac:rep h (least:Int) _),⟨_,_,rfl,(Ac:rep h (x29.1:Int) _),rfl⟩⟩
  refine hK _ _ bb.plOk ?_
  obtain⟨bm,a9,db,ap⟩:=bb.settle (i:=0) rfl
  replace a6:=a6.mono a9
  replace ap:Ah (Fr.put F bm_tried (some (.map es_tried cl_tried))) bm (DR b_least b_tried b_r_ a m) (Lv least bm_tried f r_ p g q l u d p1) [⟨ag,2,2,3,1,([.int .i64 least,.int .i64 x29.1]:List Value),(([.int .i64 least,.int .i64 x29.1]:List Value):List Value).length⟩] dl:=ap
  have c5:Ar bm ag 2 ([least,x29.1]:List Int):=⟨_,a6,db,bb.rowCap (i:=0) rfl⟩
  obtain⟨x31,ex31,H⟩:=A3 H
  refine Dl 5 fun K hK=>?_
  refine wc [.c (.slice ag 2 2)] ci ap (DW n ap.has ([least,x29.1]:List Int) c5 ex31) fun d3 cb ec b6 bp bt=>?_
  replace hE_tried:=hE_tried.mono (QU a9 bp)
  obtain rfl:=b6
  refine⟨.one (.c (.int .i64 x31)),rfl,fun b0 (ck:Kn 32 (DR b_least b_tried b_r_ a m) [tI 31 x31,tS 30 ag 2 2,tI 29 x29.1,tA 28 (CV d),(27,.one (.c (.map (some bm_tried)))),tI 26 least,tP 4 0 0] b0)=>hK _ _ bt.plOk ?_⟩
  refine DG 6 rfl (by kernel_rfl) (by decide) (rfl) (by kernel_rfl) fun K hK=>?_
  refine Ea 0 0 (.c (.int .i64 x31)) [.int .i64 x31] ck bt fun ed cl c3=>hK _ _ ?_
  have du:Kn 32 (DR b_least b_tried b_r_ a m) [] b0:=cl.kp
  refine FA (by kernel_rfl) ?_
  obtain rfl:=QZ H
  exact Fs rfl ⟨cb,es_tried,cl_tried,QU a9 bp,rfl,hE_tried,(c3.cutRw 0).cutPl 1 (by kernel_rfl)⟩
theorem HF {h0:Ad} {b_least bm_tried:Nat}:Px (Dt h0 b_least bm_tried) (Ew b_least bm_tried):=by
 refine⟨fun s F F' h h' hs hle hX hh=>?_,fun s F h hs b hb=>?_⟩
 ·
  obtain⟨h9,⟨d0_1,_⟩,bj,bg,⟨f0,n0⟩,m0,bl,_⟩:=hs
  exact⟨QU h9 hle,⟨d0_1,trivial⟩,bj,bg,⟨(hX _ (.inl rfl)).trans f0,fun o=>JS (hh _ (.inl rfl) o) (n0 o)⟩,(hX _ (.inr (rfl))).trans m0,bl.mono hle,trivial⟩
 ·
  obtain⟨h9,⟨d0_1,_⟩,bj,bg,⟨f0,n0⟩,m0,bl,_⟩:=hs
  rcases hb with rfl | rfl
  ·
   rw [f0]; rfl
  ·
   rw [m0]; rfl
theorem GP {fw:World} {h:Ad} {Y:Nat→Option Obj} {w:World} {b_least bm_tried:Nat} (s:(List (Aw×Int))×Int) {az:Array MapEntry} {ax:Nat} (b2:Du h az.toList ax s.1) (hX0:Y bm_tried=some (.map az ax)) (hl:Ah ⟨fw,h,Y⟩ h [(b_least,0)] [⟨[.int .i64 s.2],some 3⟩] [] w) :
  ∃ F1:Fr,Ah F1 h [] [] [] w∧Dt h b_least bm_tried s F1 h∧∀ (G:Fr)(h':Ad)(w':World)(s':(List (Aw×Int))×Int),Ad.le h h'→Fr.Sim (Ew b_least bm_tried) F1 G→Dt h b_least bm_tried s' G h'→Ah G h' [] [] [] w' →
   ∃ (al:Array MapEntry)(ak:Nat),Ah (Fr.put ⟨fw,h,Y⟩ bm_tried (some (.map al ak))) h' [(b_least,0)] [⟨[.int .i64 s'.2],some 3⟩] [] w'∧Du h' al.toList ak s'.1∧True:=by
 have px0:Y b_least=none:=hl.placeX (i:=0) rfl rfl
 have d0_1:b_least≠bm_tried:=fun e=>by rw [e,hX0] at px0; cases px0
 obtain⟨q0,n0⟩:=Ah.hide (e:=[]) (pl:=[]) (b:=b_least) (T:=3) (cs:=[.int .i64 s.2]) ([.int .i64 s.2]:List Value) hl rfl (by kernel_rfl) rfl
 refine⟨_,q0,⟨Ad.le_refl _,⟨d0_1,trivial⟩,az,ax,⟨Fr.put_X _ _ _,n0⟩,(Fr.put_ne _ _ d0_1.symm).trans hX0,b2,trivial⟩,fun G h' w' s' hle hsim hs' hm'=>?_⟩
 obtain⟨h9,_,al,ak,⟨f0,g0⟩,m0,b3,_⟩:=hs'
 have u0:=Ah.unhide (e:=[]) (pl:=[]) (b:=b_least) (T:=3) (cs:=[.int .i64 s'.2]) ([.int .i64 s'.2]:List Value) hm' f0 g0 rfl (by kernel_rfl) (by kernel_rfl) rfl
 have hF:Fr.put G b_least none=Fr.put ⟨fw,h,Y⟩ bm_tried (some (.map al ak)):=by
  refine Fr.eqOf hsim.w hsim.h fun b=>?_
  by_cases e0:b=b_least
  ·
   subst e0; rw [Fr.put_X,Fr.put_ne _ _ d0_1]; exact px0.symm
  rw [Fr.put_ne _ _ e0]
  by_cases e1:b=bm_tried
  ·
   subst e1; rw [Fr.put_X]; exact m0
  rw [Fr.put_ne _ _ e1]
  refine(hsim.X b (fun hb=>by rcases hb with hb | hb <;> contradiction)).trans ?_
  rw [Fr.put_ne _ _ e0]
 rw [hF] at u0
 exact⟨al,ak,u0,b3,trivial⟩
theorem HG (n:Nat) {h0:Ad} {b_least bm_tried:Nat} {b_r_:Nat} (r_:Ag) (hb_r_:Cv h0 b_r_ r_) {b_tried:Nat} (hc_tried:A8 h0 b_tried [.map (some bm_tried)]):Ou (Dt h0 b_least bm_tried) (Ew b_least bm_tried) (.func (.func 56) #[] #[.pointer (some ⟨b_tried,0,none⟩),.pointer (some ⟨b_r_,0,none⟩),.pointer (some ⟨b_least,0,none⟩)]) (fun s x0 x1=>Dy n x0 x1 s.2 s.1 r_):=by
 intro s F h w x0 cs0 hx0 x1 cs1 hx1 s' hs hm H
 obtain⟨h9,⟨d0_1,_⟩,dr,dq,⟨f0,n0⟩,m0,b4,_⟩:=hs
 have u0:=Ah.unhide (e:=[]) (pl:=[]) (b:=b_least) (T:=3) (cs:=[.int .i64 s.2]) ([.int .i64 s.2]:List Value) hm f0 n0 rfl (by kernel_rfl) (by kernel_rfl) rfl
 refine⟨56,_,_,rfl,fun _ _=>by kernel_rfl,Calls.mono (Ic n x0 hx0 x1 hx1 s.2 s.1 (hc_tried.mono h9) ((Fr.put_ne _ _ d0_1.symm).trans m0) b4 r_ (hb_r_.mono h9) u0 H) ?_⟩
 rintro en w' ⟨v,rfl,h2,bk,bh,hle,rfl,b5,m2⟩
 obtain⟨q0,_⟩:=Ah.hide (e:=[]) (pl:=[]) (b:=b_least) (T:=3) (cs:=[.int .i64 s'.2]) ([.int .i64 s'.2]:List Value) m2 rfl (by kernel_rfl) rfl
 refine⟨_,rfl,rfl,h2,Fr.put (Fr.put (Fr.put F b_least none) bm_tried (some (.map bk bh))) b_least (some (.cells ([.int .i64 s'.2]:List Value).toArray 3 (0,0))),hle,⟨rfl,rfl,fun b hb=>?_⟩,⟨QU h9 hle,⟨d0_1,trivial⟩,bk,bh,⟨Fr.put_X _ _ _,n0⟩,(Fr.put_ne _ _ d0_1.symm).trans (Fr.put_X _ _ _),b5,trivial⟩,q0⟩
 have e0:b≠b_least:=fun e=>hb (.inl e)
 have e1:b≠bm_tried:=fun e=>hb (.inr (e))
 rw [Fr.put_ne _ _ e0,Fr.put_ne _ _ e1,Fr.put_ne _ _ e0]
abbrev FE (b:Option Addr) (r_:Ag) (g:Nat) (d:Option Addr) (j:Nat) (f:Option Addr) (k:Nat):List SC:=[.slice b r_.legs.length g,.int .i64 r_.turn.lo,.int .i64 r_.turn.hi,.slice d r_.buses.length j,.slice f r_.spares.length k,.int .i64 r_.unit,.int .i64 r_.gap,.int .i64 r_.fr,.int .i64 r_.to_]
set_option maxRecDepth 100000 in
set_option maxHeartbeats 4000000 in
theorem Ju (n:Nat) {h:Ad} {w:World} (hh:Dv h w) (r_:Ag) {cs_r_:List Value} (hx_r_:rep h r_ cs_r_) {r:Int×Int} (H:FM n r_=some r) :
  Calls Try.prog 16 #[.agg cs_r_.toArray] w (D6 (fun h v=>∃ v0 v1,v=.tuple #[v0,v1]∧(v0=.int .i64 r.1)∧(v1=.int .i64 r.2)) h w):=by
 obtain⟨_,_,rfl,⟨b,g,rfl,p⟩,⟨_,_,rfl,⟨_,_,rfl,rfl,rfl⟩,⟨_,_,rfl,⟨d,j,rfl,q⟩,⟨_,_,rfl,⟨f,k,rfl,u⟩,⟨_,_,rfl,rfl,⟨_,_,rfl,rfl,⟨_,_,rfl,rfl,rfl⟩⟩⟩⟩⟩⟩⟩:=hx_r_
 refine enter 22 [.agg (FE b r_ g d j f k)] Try.func16 rfl rfl rfl rfl fun t hk=>?_
 have hm:=Ah.begin h w hh
 unfold FM at H
 refine QT (Ab (wl fun K hK=>?_))
 refine wb (.agg (FE b r_ g d j f k)) hk hm fun a b0 cm (a9:Kn 22 [(a,0)] [tP 1 0 0,tA 0 (FE b r_ g d j f k)] b0) ac=>hK _ _ ?_
 refine Rk 1 2 [tP 1 0 0] a9 ac fun cd ba=>?_
 refine wf (QT (QT (Ab (Rk 0 1 [tA 7 (FE b r_ g d j f k),tP 1 0 0] ba ac fun ce bb=>?_))))
 obtain⟨x8,ex8,H⟩:=A3 H
 refine wl fun K hK=>?_
 refine wc [.agg (FE b r_ g d j f k)] bb ac (Cw n ac.has r_ ((Aa (Ae p) (Aa (Aa Ac Ac) (Aa (Ae q) (Aa (Ae u) (Aa Ac (Aa Ac (Aa Ac Ac))))))):rep h r_ _) ex8) fun ck ak b4 ay ah z=>?_
 replace p:=p.mono ah
 replace q:=q.mono ah
 replace u:=u.mono ah
 obtain rfl:=ay
 refine⟨.one (.c (.int .i64 x8)),rfl,fun b1 (bc:Kn 22 [(a,0)] [tI 8 x8,tA 7 (FE b r_ g d j f k),tP 1 0 0] b1)=>hK _ _ ?_⟩
 refine Rk 2 1 [tI 4 x8,tP 1 0 0] bc z fun cf bd=>?_
 refine wf (QT (Ab (Rk 0 2 [tB 10 (x8 != 0),tI 4 x8,tP 1 0 0] bd z fun cg ag=>?_)))
 refine wf (wC ((x8 != 0)) ag (fun ae=>?_) (fun ae=>?_))
 ·
  rw [ae,QW] at H
  refine QT (Ab (Rk 0 3 [tI 3 x8,tI 2 0] ag z fun ch be=>?_))
  refine wf (wp_ret ?_)
  obtain rfl:=QZ H
  exact rt (.tup [.c (.int .i64 0),.c (.int .i64 x8)]) be z ⟨_,_,rfl,rfl,rfl⟩
 ·
  rw [ae,QV] at H
  refine wp_skip (QT (Ab (wl fun K hK=>?_)))
  refine Kv ag z rfl rfl (by decide) fun o b2 ca (bf:Kn 22 [(a,0)] [(12,.one (.c (.map (some o)))),tB 10 (x8 != 0),tI 4 x8,tP 1 0 0] b2) (bs:Ah (Fr.put ⟨w,h,Az⟩ o (some (.map #[] 0))) ak [(a,0)] [⟨FE b r_ g d j f k,some 43⟩] [] (World.alloc b4 (.map #[] 0)))=>?_
  have ad:Du ak (#[]:Array MapEntry).toList 0 ([]:List (Aw×Int)):=Du.nil
  refine hK _ _ ?_
  refine wl fun K hK=>?_
  refine wa [.map none] bf bs fun l aq cn (bg:Kn 22 [(a,0),(l,0)] [tP 5 1 0,(12,.one (.c (.map (some o)))),tB 10 (x8 != 0),tI 4 x8,tP 1 0 0] aq) bt=>hK _ _ ?_
  refine wl fun K hK=>?_
  refine Ea 1 0 (.c (.map (some o))) [.map (some o)] bg bt fun co bh ao=>hK _ _ ?_
  have bi:Kn 22 [(a,0),(l,0)] [tP 5 1 0,tP 1 0 0] aq:=bh.kp
  refine wf (QT (Ab (Rk 0 5 [tI 17 (IntKind.i64.wrap (r_.to_-r_.fr)),tP 5 1 0,tP 1 0 0] bi ao fun ci bj=>?_)))
  refine wl fun K hK=>?_
  refine wa [.int .i64 0] bj ao fun m ar cp (bk:Kn 22 [(a,0),(l,0),(m,0)] [tP 6 2 0,tI 17 (IntKind.i64.wrap (r_.to_-r_.fr)),tP 5 1 0,tP 1 0 0] ar) bu=>hK _ _ ?_
  refine wl fun K hK=>?_
  refine Ea 2 0 (.c (.int .i64 (IntKind.i64.wrap (r_.to_-r_.fr)))) [.int .i64 (IntKind.i64.wrap (r_.to_-r_.fr))] bk bu fun av bl ap=>hK _ _ ?_
  have bm:Kn 22 [(a,0),(l,0),(m,0)] [tP 6 2 0,tP 5 1 0,tP 1 0 0] ar:=bl.kp
  refine wf (QT (Ab (Rk 0 1 [tA 18 (FE b r_ g d j f k),tP 6 2 0,tP 5 1 0,tP 1 0 0] bm ap fun cj bn=>?_)))
  obtain⟨al,ab,a6,ai⟩:=ap.settlePlc (i:=1) rfl
  replace ai:Ah (Fr.put ⟨w,h,Az⟩ o (some (.map #[] 0))) al [(a,0),(l,0),(m,0)] [⟨FE b r_ g d j f k,some 43⟩,⟨[.map (some o)],none⟩,⟨[.int .i64 (IntKind.i64.wrap (r_.to_-r_.fr))],some 3⟩] [] av:=ai
  have af:A8 al l [.map (some o)]:=A8.of (e:=[(a,0),(l,0),(m,0)]) (cs:=[.map (some o)]) rfl a6
  obtain⟨x,y,am,aj⟩:=ai.settlePlc (i:=0) rfl
  replace p:=p.mono (QU ab y)
  replace q:=q.mono (QU ab y)
  replace u:=u.mono (QU ab y)
  replace af:=af.mono y
  replace ad:=ad.mono (QU ab y)
  replace aj:Ah (Fr.put ⟨w,h,Az⟩ o (some (.map #[] 0))) x [(a,0),(l,0),(m,0)] [⟨FE b r_ g d j f k,none⟩,⟨[.map (some o)],none⟩,⟨[.int .i64 (IntKind.i64.wrap (r_.to_-r_.fr))],some 3⟩] [] av:=aj
  have a4:Cv x a (r_:Ag):=Cv.of (e:=[(a,0),(l,0),(m,0)]) (cs:=(FE b r_ g d j f k)) ((Aa (Ae p) (Aa (Aa Ac Ac) (Aa (Ae q) (Aa (Ae u) (Aa Ac (Aa Ac (Aa Ac Ac))))))):rep x (r_:Ag) _) rfl am
  have cb:A8 x a [.slice b r_.legs.length g,.int .i64 r_.turn.lo,.int .i64 r_.turn.hi,.slice d r_.buses.length j,.slice f r_.spares.length k,.int .i64 r_.unit,.int .i64 r_.gap,.int .i64 r_.fr,.int .i64 r_.to_]:=A8.of (e:=[(a,0),(l,0),(m,0)]) (cs:=[.slice b r_.legs.length g,.int .i64 r_.turn.lo,.int .i64 r_.turn.hi,.slice d r_.buses.length j,.slice f r_.spares.length k,.int .i64 r_.unit,.int .i64 r_.gap,.int .i64 r_.fr,.int .i64 r_.to_]) rfl am
  refine Fw 1 #[] #[.pointer (some ⟨l,0,none⟩),.pointer (some ⟨a,0,none⟩),.pointer (some ⟨m,0,none⟩)] bn rfl rfl (rfl) rfl (by decide) (by rfl) (by rfl) (by rfl) (by rfl) fun b3 (bo:Kn 22 [(a,0),(l,0),(m,0)] [(19,.one (.c (.func (.func 56) #[] #[.pointer (some ⟨l,0,none⟩),.pointer (some ⟨a,0,none⟩),.pointer (some ⟨m,0,none⟩)]))),tA 18 (FE b r_ g d j f k),tP 6 2 0,tP 5 1 0,tP 1 0 0] b3)=>?_
  obtain⟨x20,ex20,H⟩:=A3 H
  obtain⟨b8,a2,bq,bx⟩:=aj.lend1 o (Fr.put_X _ _ _) [2] [] (by kernel_rfl) (by kernel_rfl) (by kernel_rfl) (by kernel_rfl)
  obtain⟨b6,br,az,a5⟩:=GP (([]:List (Aw×Int)),IntKind.i64.wrap (r_.to_-r_.fr)) ad (a2 _ _ (Fr.put_X _ _ _)) bq
  refine wl fun K hK=>?_
  refine Kw [.agg (FE b r_ g d j f k),.c (.func (.func 56) #[] #[.pointer (some ⟨l,0,none⟩),.pointer (some ⟨a,0,none⟩),.pointer (some ⟨m,0,none⟩)])] _ bo rfl rfl (by decide) (by rfl) rfl (fun _ _=>by kernel_rfl) (E9 n HF (fun s y0 y1=>Dy n y0 y1 s.2 s.1 r_) (HG n r_ a4 af) r_ ((Aa (Ae p) (Aa (Aa Ac Ac) (Aa (Ae q) (Aa (Ae u) (Aa Ac (Aa Ac (Aa Ac Ac))))))):rep x r_ _) (([]:List (Aw×Int)),IntKind.i64.wrap (r_.to_-r_.fr)) az br ex20) fun cl b5 a0=>?_
  obtain⟨rfl,a3,b7,an,bz,a1,bv⟩:=a0
  obtain⟨ax,aw,bw,b9,_⟩:=a5 _ _ _ _ an bz a1 bv
  have aa:=bx _ _ _ _ [] an rfl (Nat.le_refl _) (by kernel_rfl) bw
  rw [Fr.put_put] at aa
  replace aa:Ah (Fr.put ⟨w,h,Az⟩ o (some (.map ax aw))) a3 [(a,0),(l,0),(m,0)] [⟨[.slice b r_.legs.length g,.int .i64 r_.turn.lo,.int .i64 r_.turn.hi,.slice d r_.buses.length j,.slice f r_.spares.length k,.int .i64 r_.unit,.int .i64 r_.gap,.int .i64 r_.fr,.int .i64 r_.to_],none⟩,⟨[.map (some o)],none⟩,⟨[.int .i64 x20.2],some 3⟩] [] b5:=aa
  refine⟨.tup [],rfl,fun au (bp:Kn 22 [(a,0),(l,0),(m,0)] [(20,.tup []),(19,.one (.c (.func (.func 56) #[] #[.pointer (some ⟨l,0,none⟩),.pointer (some ⟨a,0,none⟩),.pointer (some ⟨m,0,none⟩)]))),tA 18 (FE b r_ g d j f k),tP 6 2 0,tP 5 1 0,tP 1 0 0] au)=>hK _ _ ?_⟩
  have a7:Kn 22 [(a,0),(l,0),(m,0)] [tP 6 2 0] au:=bp.kp
  refine wf (QT (Ab (Rk 0 3 [tI 3 0,tI 2 x20.2] a7 aa fun cc a8=>?_)))
  refine wf (wp_ret ?_)
  obtain rfl:=QZ H
  exact rt (.tup [.c (.int .i64 x20.2),.c (.int .i64 0)]) a8 aa ⟨_,_,rfl,rfl,rfl⟩
end Go.Proofs.Ytokchpjijlebiaa
