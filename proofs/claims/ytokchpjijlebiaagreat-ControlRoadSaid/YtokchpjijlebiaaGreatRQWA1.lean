/- Each call computes its plain function. -/
import Derived.Test.YtokchpjijlebiaaGreatProg
import Derived.Test.YtokchpjijlebiaaGreatRQWQ
import Derived.Test.YtokchpjijlebiaaGreatRQWX
import Derived.Test.YtokchpjijlebiaaGreatRQWY
set_option linter.all false
namespace Go.Proofs.YtokchpjijlebiaaGreat
open Go Go.RowKit
set_option maxRecDepth 100000
set_option maxHeartbeats 4000000
open Rep (rep)
open KRep (kv)
open VRep (rv)
theorem Ar.KL:KL Tryz.prog 105 Ar:=by
  refine KL.struct 5 (by decide) (fun x=>[Ws x.lD.a0,Ws x.lD.a1,Ws x.lD.a2,Ws x.lD.a3,Ws x.lE.a0,Ws x.lE.a1,Ws x.lE.a2,Ws x.lE.a3,.bool x.lC.a0,.bool x.lC.a1]) (fun _=>rfl) (by kernel_rfl) (fun _=>by kernel_rfl) (fun _=>by kernel_rfl) fun a b=>⟨((a.lD.a0 == b.lD.a0) && ((a.lD.a1 == b.lD.a1) && ((a.lD.a2 == b.lD.a2) && ((a.lD.a3 == b.lD.a3) && true)))) && (((a.lE.a0 == b.lE.a0) && ((a.lE.a1 == b.lE.a1) && ((a.lE.a2 == b.lE.a2) && ((a.lE.a3 == b.lE.a3) && true)))) && (((a.lC.a0 == b.lC.a0) && ((a.lC.a1 == b.lC.a1) && true)) && true)),by kernel_rfl,?_⟩
  rcases a with⟨⟨a0,a1,a2,a3⟩,⟨a4,a5,a6,a7⟩,⟨a8,a9⟩⟩
  rcases b with⟨⟨b0,b1,b2,b3⟩,⟨b4,b5,b6,b7⟩,⟨b8,b9⟩⟩
  simp [and_assoc]
abbrev Qa (least aT f)(r_:Af)(p g q l u)(d:Ar)(p1:Bn):=([⟨[Ws least],some 3⟩,⟨[.map (some aT)],none⟩,⟨UB f r_ p g q l u,none⟩,⟨DA d,some 105⟩,⟨RM p1,some 107⟩]:List Db)
theorem Ld (n:Nat) {F:Fr} {h:Ae} {w:World} {bN aU aI:Nat} (d:Ar) {eF:Wx} (fU:rep h d eF) (p1:Bn) {cs_p1:Wx} (hx_p1:rep h p1 cs_p1) (least:Int) (tried:List (Ar×Int)) {aT:Nat} {eR:Array MapEntry} {eS:Nat} (fY:AL h bN [.map (some aT)]) (hX_tried:F.X aT=some (.map eR eS)) (hE_tried:En h eR.toList eS tried) (r_:Af) (cM:CY h aU r_) (hm:Ah F h [(aI,0)] [⟨[Ws least],some 3⟩] [] w) {r:(List (Ar×Int))×Int} (H:Ep n d p1 least tried r_=some r) :
  Calls Tryz.prog 57 #[.agg eF.toArray,.agg cs_p1.toArray,.pointer (some ⟨bN,0,none⟩),.pointer (some ⟨aU,0,none⟩),.pointer (some ⟨aI,0,none⟩)] w (S6 fun v w'=>∃ (h':Ae)(bi:Array MapEntry)(bf:Nat),Ae.le h h'∧(v=.tuple #[])∧En h' bi.toList bf r.1∧Ah (Fr.put F aT (some (.map bi bf))) h' [(aI,0)] [⟨[.int .i64 r.2],some 3⟩] [] w'):=by
 obtain⟨_,_,rfl,⟨_,_,rfl,rfl,⟨_,_,rfl,rfl,⟨_,_,rfl,rfl,rfl⟩⟩⟩,⟨_,_,rfl,⟨_,_,rfl,rfl,⟨_,_,rfl,rfl,⟨_,_,rfl,rfl,rfl⟩⟩⟩,⟨_,_,rfl,rfl,rfl⟩⟩⟩:=fU
 obtain⟨_,_,rfl,rfl,rfl⟩:=hx_p1
 obtain⟨_,aW,iF⟩:=id cM
 obtain⟨_,_,rfl,⟨f,p,rfl,au⟩,⟨_,_,rfl,⟨_,_,rfl,rfl,rfl⟩,⟨_,_,rfl,⟨g,q,rfl,av⟩,⟨_,_,rfl,⟨l,u,rfl,aw⟩,⟨_,_,rfl,rfl,⟨_,_,rfl,rfl,⟨_,_,rfl,rfl,rfl⟩⟩⟩⟩⟩⟩⟩:=aW
 refine HL (e:=[(aI,0),(bN,0),(aU,0)]) 32 [.agg (DA d),.agg (RM p1),.c (.ptr 1 0),.c (.ptr 2 0),.c (.ptr 0 0)] Tryz.func57 rfl rfl rfl rfl fun t hk=>?_
 replace hm:=hm.addPlc (o:=0) (cs:=[.map (some aT)]) (fun j c hj=>by rw [Xa]; exact fY j _ (Ak hj)) rfl (by kernel_rfl) (by kernel_rfl)
 replace hm:=hm.addPlc (o:=0) (cs:=(Wp r_ f p g q l u)) (fun j c hj=>by rw [Xa]; exact iF j _ (Ak hj)) rfl (by kernel_rfl) (by kernel_rfl)
 rw [← Fr.put_self hX_tried] at hm
 replace hm:Ah (Fr.put F aT (some (.map eR eS))) h [(aI,0),(bN,0),(aU,0)] [⟨[Ws least],some 3⟩,⟨[.map (some aT)],none⟩,⟨(Wp r_ f p g q l u),none⟩] [] w:=hm
 unfold Ep at H
 refine XT (Aa (wl fun K hK=>?_))
 refine wb (.agg (DA d)) hk hm fun a dd eb (cj:Kn 32 [(aI,0),(bN,0),(aU,0),(a,0)] [tP 5 3 0,tA 0 (DA d),tA 1 (RM p1),tP 2 1 0,tP 3 2 0,tP 4 0 0] dd) c4=>hK _ _ ?_
 refine wl fun K hK=>?_
 refine wb (.agg (RM p1)) cj c4 fun m b1 ee (cm:Kn 32 (Fd aI bN aU a m) [tP 6 4 0,tP 5 3 0,tA 0 (DA d),tA 1 (RM p1),tP 2 1 0,tP 3 2 0,tP 4 0 0] b1) y=>hK _ _ ?_
 have cn:Kn 32 (Fd aI bN aU a m) [tP 5 3 0,tP 2 1 0,tP 3 2 0,tP 4 0 0] b1:=cm.kp
 refine wf (XT (XT (Aa (Rk 0 2 [tA 11 (DA d),(10,.one (.c (.map (some aT)))),tP 5 3 0,tP 2 1 0,tP 3 2 0,tP 4 0 0] cn y fun dw co=>?_))))
 obtain⟨x12,ex12,H⟩:=Av H
 refine wl fun K hK=>?_
 refine HZ (KT:=105) (E:=3) (k:=(d:Ar)) (0:Int) (.agg (DA d)) co rfl rfl (by decide) (by rfl) (by rfl) (by kernel_rfl) Ar.KL (y.ext (Fr.put_X _ _ _)) hE_tried rfl (by kernel_rfl) rfl fun d4 bw=>?_
 rw [XZ ex12] at bw ⊢
 obtain rfl:=bw
 refine⟨.tup [.c (Ws x12.1),.c (.bool x12.2)],rfl,fun dg (cp:Kn 32 (Fd aI bN aU a m) [(12,.tup [.c (Ws x12.1),.c (.bool x12.2)]),tA 11 (DA d),(10,.one (.c (.map (some aT)))),tP 5 3 0,tP 2 1 0,tP 3 2 0,tP 4 0 0] dg)=>hK _ _ ?_⟩
 refine Rk 3 5 [tB 8 x12.2,tP 5 3 0,tP 2 1 0,tP 3 2 0,tP 4 0 0] cp y fun dx cq=>?_
 refine wf (XT (Aa (Rk 0 2 [tB 16 (!x12.2),tP 5 3 0,tP 2 1 0,tP 3 2 0,tP 4 0 0] cq y fun dy a8=>?_)))
 refine wf (wC ((!x12.2)) a8 (fun a5=>?_) (fun a5=>?_))
 ·
  rw [a5,XW] at H
  refine Am (by kernel_rfl) ?_
  replace y:=y.drew
  refine Ao [] (Fd aI bN aU a m) (Qa least aT f r_ p g q l u d p1) ?_
  refine Dr [0,1,2,3,4] (dn 4) [tA 21 (UB f r_ p g q l u),tA 20 (DA d),tA 19 (UB f r_ p g q l u),tA 18 (DA d),(17,.one (.c (.map (some aT)))),tP 5 3 0,tP 2 1 0,tP 4 0 0] a8 y fun dz cr=>?_
  obtain⟨fC,kE,H⟩:=Av H
  refine Dl 5 fun K hK=>?_
  refine wc [.agg (DA d),.agg (UB f r_ p g q l u)] cr y (Dp n y.has d ((Ab (Ab Ac (Ab Ac (Ab Ac Ac))) (Ab (Ab Ac (Ab Ac (Ab Ac Ac))) (Ab B3 B3))):rep h d _) r_ ((Ab (Ad au) (Ab (Ab Ac Ac) (Ab (Ad av) (Ab (Ad aw) (Ab Ac (Ab Ac (Ab Ac Ac))))))):rep h r_ _) kE) fun d5 cc ef b7 am aq=>?_
  replace au:=au.mono am
  replace av:=av.mono am
  replace aw:=aw.mono am
  obtain⟨_,rfl,⟨_,_,rfl,⟨z,ac,rfl,c6⟩,⟨_,_,rfl,⟨aa,ad,rfl,c7⟩,⟨ab,ae,rfl,c8⟩⟩⟩⟩:=b7
  refine⟨.one (.agg (Wq fC z ac aa ad ab ae)),rfl,fun dh (ct:Kn 32 (Fd aI bN aU a m) [tA 22 (Wq fC z ac aa ad ab ae),tA 21 (UB f r_ p g q l u),tA 20 (DA d),tA 19 (UB f r_ p g q l u),tA 18 (DA d),(17,.one (.c (.map (some aT)))),tP 5 3 0,tP 2 1 0,tP 4 0 0] dh)=>hK _ _ aq.plOk ?_⟩
  refine Dr [6] (dn 6) [tA 23 (RN f r_ p g q l u z fC ac aa ad ab ae),tA 18 (DA d),(17,.one (.c (.map (some aT)))),tP 5 3 0,tP 2 1 0,tP 4 0 0] ct aq fun d0 cu=>?_
  obtain⟨fI,kF,H⟩:=Av H
  refine Dl 7 fun K hK=>?_
  refine wc [.agg (RN f r_ p g q l u z fC ac aa ad ab ae)] cu aq (F7 n aq.has (AM.mk r_ fC) ((Ab (Ab (Ad au) (Ab (Ab Ac Ac) (Ab (Ad av) (Ab (Ad aw) (Ab Ac (Ab Ac (Ab Ac Ac))))))) (Ab (Ad c6) (Ab (Ad c7) (Ad c8)))):rep cc (AM.mk r_ fC) _) kF) fun d6 ds eg b8 bq bc=>?_
  obtain⟨ah,aj,rfl,c9⟩:=b8
  refine⟨.one (.c (Wu ah fI.length aj)),rfl,fun di (cv:Kn 32 (Fd aI bN aU a m) [tS 24 ah fI.length aj,tA 23 (RN f r_ p g q l u z fC ac aa ad ab ae),tA 18 (DA d),(17,.one (.c (.map (some aT)))),tP 5 3 0,tP 2 1 0,tP 4 0 0] di)=>hK _ _ bc.plOk ?_⟩
  obtain⟨dU,iY,H⟩:=Av H
  refine Dl 8 fun K hK=>?_
  refine wc [.c (Wu ah fI.length aj)] cv bc (HB n bc.has fI c9 iY) fun d7 ao eh b9 br bu=>?_
  replace hE_tried:=hE_tried.mono (XU (XU am bq) br)
  obtain rfl:=b9
  refine⟨.one (.c (Ws dU)),rfl,fun be (cw:Kn 32 (Fd aI bN aU a m) [tI 25 dU,tS 24 ah fI.length aj,tA 23 (RN f r_ p g q l u z fC ac aa ad ab ae),tA 18 (DA d),(17,.one (.c (.map (some aT)))),tP 5 3 0,tP 2 1 0,tP 4 0 0] be)=>hK _ _ bu.plOk ?_⟩
  refine Dl 9 fun K hK=>?_
  refine S7 (KT:=105) (E:=3) (k:=(d:Ar)) (x:=(dU:Int)) (.agg (DA d)) (.c (Ws dU)) cw bu rfl rfl (by rfl) (by rfl) (by rfl) (by kernel_rfl) Ar.KL hE_tried rfl rfl fun a4 ay dm an (cx:Kn 32 (Fd aI bN aU a m) [tI 25 dU,tS 24 ah fI.length aj,tA 23 (RN f r_ p g q l u z fC ac aa ad ab ae),tA 18 (DA d),(17,.one (.c (.map (some aT)))),tP 5 3 0,tP 2 1 0,tP 4 0 0] be) (af:Ah (Fr.put F aT (some (.map a4 ay))) ao (Fd aI bN aU a m) (Qa least aT f r_ p g q l u d p1) [] dm)=>hK _ _ af.plOk ?_
  have cy:Kn 32 (Fd aI bN aU a m) [tP 5 3 0,tP 2 1 0,tP 4 0 0] be:=cx.kp
  refine A2 (by kernel_rfl) (Am (by kernel_rfl) ?_)
  replace af:=af.drew
  refine Ao [] (Fd aI bN aU a m) (Qa least aT f r_ p g q l u d p1) ?_
  refine Dr [0,1,2] [2,1,0] [tA 28 (DA d),(27,.one (.c (.map (some aT)))),tI 26 least,tP 4 0 0] cy af fun d1 cz=>?_
  obtain⟨eP,kG,H⟩:=Av H
  refine Dl 3 fun K hK=>?_
  refine HZ (KT:=105) (E:=3) (k:=(d:Ar)) (0:Int) (.agg (DA d)) cz rfl rfl (by decide) (by rfl) (by rfl) (by kernel_rfl) Ar.KL (af.ext (Fr.put_X _ _ _)) an rfl (by kernel_rfl) rfl fun d8 bx=>?_
  rw [XZ kG] at bx ⊢
  obtain rfl:=bx
  refine⟨.one (.c (Ws eP.1)),rfl,fun dj (c0:Kn 32 (Fd aI bN aU a m) [tI 29 eP.1,tA 28 (DA d),(27,.one (.c (.map (some aT)))),tI 26 least,tP 4 0 0] dj)=>hK _ _ af.plOk ?_⟩
  refine Dl 4 fun K hK=>?_
  refine wS 3 1 [Ws least,Ws eP.1] c0 af fun ai dk dp (c1:Kn 32 (Fd aI bN aU a m) [tS 30 ai 2 2,tI 29 eP.1,tA 28 (DA d),(27,.one (.c (.map (some aT)))),tI 26 least,tP 4 0 0] dk) bd=>?_
  have a7:Ag ao ([least,eP.1]:List Int) ([.int .i64 least,.int .i64 eP.1]:Wx):=⟨_,_,rfl,(Ac:rep ao (least:Int) _),⟨_,_,rfl,(Ac:rep ao (eP.1:Int) _),rfl⟩⟩
  refine hK _ _ bd.plOk ?_
  obtain⟨bn,ba,dc,ar⟩:=bd.settle (i:=0) rfl
  replace a7:=a7.mono ba
  replace ar:Ah (Fr.put F aT (some (.map a4 ay))) bn (Fd aI bN aU a m) (Qa least aT f r_ p g q l u d p1) [⟨ai,2,2,3,1,([.int .i64 least,.int .i64 eP.1]:Wx),(([.int .i64 least,.int .i64 eP.1]:Wx):Wx).length⟩] dp:=ar
  have da:A4 bn ai 2 ([least,eP.1]:List Int):=⟨_,a7,dc,bd.rowCap (i:=0) rfl⟩
  obtain⟨aV,fP,H⟩:=Av H
  refine Dl 5 fun K hK=>?_
  refine wc [.c (Wu ai 2 2)] c1 ar (Fi n ar.has ([least,eP.1]:List Int) da fP) fun d9 cd ei ca bo bs=>?_
  replace an:=an.mono (XU ba bo)
  obtain rfl:=ca
  refine⟨.one (.c (Ws aV)),rfl,fun bz (ce:Kn 32 (Fd aI bN aU a m) [tI 31 aV,tS 30 ai 2 2,tI 29 eP.1,tA 28 (DA d),(27,.one (.c (.map (some aT)))),tI 26 least,tP 4 0 0] bz)=>hK _ _ bs.plOk ?_⟩
  refine Cq 6 rfl (by kernel_rfl) (by decide) (rfl) (by kernel_rfl) fun K hK=>?_
  refine EZ 0 0 (.c (Ws aV)) [Ws aV] ce bs fun ea cf c2=>hK _ _ ?_
  have dt:Kn 32 (Fd aI bN aU a m) [] bz:=cf.kp
  refine Em (by kernel_rfl) ?_
  obtain rfl:=XZ H
  exact GS rfl ⟨cd,a4,ay,XU am (XU bq (XU br (XU ba bo))),rfl,an,(c2.cutRw 0).cutPl 1 (by kernel_rfl)⟩
 ·
  rw [a5,XV] at H
  refine wp_skip (Am (by kernel_rfl) ?_)
  replace y:=y.drew
  refine Ao [] (Fd aI bN aU a m) (Qa least aT f r_ p g q l u d p1) ?_
  refine Dr [0,1,2] [2,1,0] [tA 28 (DA d),(27,.one (.c (.map (some aT)))),tI 26 least,tP 4 0 0] a8 y fun dv cg=>?_
  obtain⟨eP,kG,H⟩:=Av H
  refine Dl 3 fun K hK=>?_
  refine HZ (KT:=105) (E:=3) (k:=(d:Ar)) (0:Int) (.agg (DA d)) cg rfl rfl (by decide) (by rfl) (by rfl) (by kernel_rfl) Ar.KL (y.ext (Fr.put_X _ _ _)) hE_tried rfl (by kernel_rfl) rfl fun d2 bv=>?_
  rw [XZ kG] at bv ⊢
  obtain rfl:=bv
  refine⟨.one (.c (Ws eP.1)),rfl,fun de (ch:Kn 32 (Fd aI bN aU a m) [tI 29 eP.1,tA 28 (DA d),(27,.one (.c (.map (some aT)))),tI 26 least,tP 4 0 0] de)=>hK _ _ y.plOk ?_⟩
  refine Dl 4 fun K hK=>?_
  refine wS 3 1 [Ws least,Ws eP.1] ch y fun ag df dl (ci:Kn 32 (Fd aI bN aU a m) [tS 30 ag 2 2,tI 29 eP.1,tA 28 (DA d),(27,.one (.c (.map (some aT)))),tI 26 least,tP 4 0 0] df) bb=>?_
  have a6:Ag h ([least,eP.1]:List Int) ([.int .i64 least,.int .i64 eP.1]:Wx):=⟨_,_,rfl,(Ac:rep h (least:Int) _),⟨_,_,rfl,(Ac:rep h (eP.1:Int) _),rfl⟩⟩
  refine hK _ _ bb.plOk ?_
  obtain⟨bm,a9,db,ap⟩:=bb.settle (i:=0) rfl
  replace a6:=a6.mono a9
  replace ap:Ah (Fr.put F aT (some (.map eR eS))) bm (Fd aI bN aU a m) (Qa least aT f r_ p g q l u d p1) [⟨ag,2,2,3,1,([.int .i64 least,.int .i64 eP.1]:Wx),(([.int .i64 least,.int .i64 eP.1]:Wx):Wx).length⟩] dl:=ap
  have c5:A4 bm ag 2 ([least,eP.1]:List Int):=⟨_,a6,db,bb.rowCap (i:=0) rfl⟩
  obtain⟨aV,fP,H⟩:=Av H
  refine Dl 5 fun K hK=>?_
  refine wc [.c (Wu ag 2 2)] ci ap (Fi n ap.has ([least,eP.1]:List Int) c5 fP) fun d3 cb ec b6 bp bt=>?_
  replace hE_tried:=hE_tried.mono (XU a9 bp)
  obtain rfl:=b6
  refine⟨.one (.c (Ws aV)),rfl,fun b0 (ck:Kn 32 (Fd aI bN aU a m) [tI 31 aV,tS 30 ag 2 2,tI 29 eP.1,tA 28 (DA d),(27,.one (.c (.map (some aT)))),tI 26 least,tP 4 0 0] b0)=>hK _ _ bt.plOk ?_⟩
  refine Cq 6 rfl (by kernel_rfl) (by decide) (rfl) (by kernel_rfl) fun K hK=>?_
  refine EZ 0 0 (.c (Ws aV)) [Ws aV] ck bt fun ed cl c3=>hK _ _ ?_
  have du:Kn 32 (Fd aI bN aU a m) [] b0:=cl.kp
  refine Em (by kernel_rfl) ?_
  obtain rfl:=XZ H
  exact GS rfl ⟨cb,eR,eS,XU a9 bp,rfl,hE_tried,(c3.cutRw 0).cutPl 1 (by kernel_rfl)⟩
theorem Kt {h0:Ae} {aI aT:Nat}:V4 (El h0 aI aT) (FC aI aT):=by
 refine⟨fun s F F' h h' hs hle hX hh=>?_,fun s F h hs b hb=>?_⟩
 ·
  obtain⟨h9,⟨d0_1,_⟩,bj,bg,⟨f0,n0⟩,m0,bl,_⟩:=hs
  exact⟨XU h9 hle,⟨d0_1,trivial⟩,bj,bg,⟨(hX _ (.inl rfl)).trans f0,fun o=>N8 (hh _ (.inl rfl) o) (n0 o)⟩,(hX _ (.inr (rfl))).trans m0,bl.mono hle,trivial⟩
 ·
  obtain⟨h9,⟨d0_1,_⟩,bj,bg,⟨f0,n0⟩,m0,bl,_⟩:=hs
  rcases hb with rfl | rfl
  ·
   rw [f0]; rfl
  ·
   rw [m0]; rfl
theorem Jk {fw:World} {h:Ae} {Y:Nat→Option Obj} {w:World} {aI aT:Nat} (s:(List (Ar×Int))×Int) {az:Array MapEntry} {ax:Nat} (b2:En h az.toList ax s.1) (hX0:Y aT=some (.map az ax)) (hl:Ah ⟨fw,h,Y⟩ h [(aI,0)] [⟨[Ws s.2],some 3⟩] [] w) :
  ∃ F1:Fr,Ah F1 h [] [] [] w∧El h aI aT s F1 h∧∀ (G:Fr)(h':Ae)(w':World)(s':(List (Ar×Int))×Int),Ae.le h h'→Fr.Sim (FC aI aT) F1 G→El h aI aT s' G h'→Ah G h' [] [] [] w' →
   ∃ (al:Array MapEntry)(ak:Nat),Ah (Fr.put ⟨fw,h,Y⟩ aT (some (.map al ak))) h' [(aI,0)] [⟨[Ws s'.2],some 3⟩] [] w'∧En h' al.toList ak s'.1∧True:=by
 have px0:Y aI=none:=hl.placeX (i:=0) rfl rfl
 have d0_1:aI≠aT:=fun e=>by rw [e,hX0] at px0; cases px0
 obtain⟨q0,n0⟩:=Ah.hide (e:=[]) (pl:=[]) (b:=aI) (T:=3) (cs:=[Ws s.2]) ([.int .i64 s.2]:Wx) hl rfl (by kernel_rfl) rfl
 refine⟨_,q0,⟨Ae.le_refl _,⟨d0_1,trivial⟩,az,ax,⟨Fr.put_X _ _ _,n0⟩,(Fr.put_ne _ _ d0_1.symm).trans hX0,b2,trivial⟩,fun G h' w' s' hle hsim hs' hm'=>?_⟩
 obtain⟨h9,_,al,ak,⟨f0,g0⟩,m0,b3,_⟩:=hs'
 have u0:=Ah.unhide (e:=[]) (pl:=[]) (b:=aI) (T:=3) (cs:=[Ws s'.2]) ([.int .i64 s'.2]:Wx) hm' f0 g0 rfl (by kernel_rfl) (by kernel_rfl) rfl
 have hF:Fr.put G aI none=Fr.put ⟨fw,h,Y⟩ aT (some (.map al ak)):=by
  refine Fr.eqOf hsim.w hsim.h fun b=>?_
  by_cases e0:b=aI
  ·
   subst e0; rw [Fr.put_X,Fr.put_ne _ _ d0_1]; exact px0.symm
  rw [Fr.put_ne _ _ e0]
  by_cases e1:b=aT
  ·
   subst e1; rw [Fr.put_X]; exact m0
  rw [Fr.put_ne _ _ e1]
  refine(hsim.X b (fun hb=>by rcases hb with hb | hb <;> contradiction)).trans ?_
  rw [Fr.put_ne _ _ e0]
 rw [hF] at u0
 exact⟨al,ak,u0,b3,trivial⟩
theorem Ku (n:Nat) {h0:Ae} {aI aT:Nat} {aU:Nat} (r_:Af) (cM:CY h0 aU r_) {bN:Nat} (fY:AL h0 bN [.map (some aT)]):Uo (El h0 aI aT) (FC aI aT) (.func (.func 57) #[] #[.pointer (some ⟨bN,0,none⟩),.pointer (some ⟨aU,0,none⟩),.pointer (some ⟨aI,0,none⟩)]) (fun s x0 x1=>Ep n x0 x1 s.2 s.1 r_):=by
 intro s F h w x0 cs0 hx0 x1 cs1 hx1 s' hs hm H
 obtain⟨h9,⟨d0_1,_⟩,dr,dq,⟨f0,n0⟩,m0,b4,_⟩:=hs
 have u0:=Ah.unhide (e:=[]) (pl:=[]) (b:=aI) (T:=3) (cs:=[Ws s.2]) ([.int .i64 s.2]:Wx) hm f0 n0 rfl (by kernel_rfl) (by kernel_rfl) rfl
 refine⟨57,_,_,rfl,fun _ _=>by kernel_rfl,Calls.mono (Ld n x0 hx0 x1 hx1 s.2 s.1 (fY.mono h9) ((Fr.put_ne _ _ d0_1.symm).trans m0) b4 r_ (cM.mono h9) u0 H) ?_⟩
 rintro en w' ⟨v,rfl,h2,bk,bh,hle,rfl,b5,m2⟩
 obtain⟨q0,_⟩:=Ah.hide (e:=[]) (pl:=[]) (b:=aI) (T:=3) (cs:=[Ws s'.2]) ([.int .i64 s'.2]:Wx) m2 rfl (by kernel_rfl) rfl
 refine⟨_,rfl,rfl,h2,Fr.put (Fr.put (Fr.put F aI none) aT (some (.map bk bh))) aI (some (.cells ([.int .i64 s'.2]:Wx).toArray 3 (0,0))),hle,⟨rfl,rfl,fun b hb=>?_⟩,⟨XU h9 hle,⟨d0_1,trivial⟩,bk,bh,⟨Fr.put_X _ _ _,n0⟩,(Fr.put_ne _ _ d0_1.symm).trans (Fr.put_X _ _ _),b5,trivial⟩,q0⟩
 have e0:b≠aI:=fun e=>hb (.inl e)
 have e1:b≠aT:=fun e=>hb (.inr (e))
 rw [Fr.put_ne _ _ e0,Fr.put_ne _ _ e1,Fr.put_ne _ _ e0]
theorem M1 (n:Nat) {h:Ae} {w:World} (hh:Dk h w) (r_:Af) {aP:Wx} (aW:rep h r_ aP) {r:Int×Int} (H:HK n r_=some r) :
  Calls Tryz.prog 31 #[.agg aP.toArray] w (Dq (fun h v=>∃ v0 v1,v=.tuple #[v0,v1]∧(v0=.int .i64 r.1)∧(v1=.int .i64 r.2)) h w):=by
 obtain⟨_,_,rfl,⟨b,g,rfl,p⟩,⟨_,_,rfl,⟨_,_,rfl,rfl,rfl⟩,⟨_,_,rfl,⟨d,j,rfl,q⟩,⟨_,_,rfl,⟨f,k,rfl,u⟩,⟨_,_,rfl,rfl,⟨_,_,rfl,rfl,⟨_,_,rfl,rfl,rfl⟩⟩⟩⟩⟩⟩⟩:=aW
 refine enter 22 [.agg (UB b r_ g d j f k)] Tryz.func31 rfl rfl rfl rfl fun t hk=>?_
 have hm:=Ah.begin h w hh
 unfold HK at H
 refine XT (Aa (wl fun K hK=>?_))
 refine wb (.agg (UB b r_ g d j f k)) hk hm fun a b0 cm (a9:Kn 22 [(a,0)] [tP 1 0 0,tA 0 (UB b r_ g d j f k)] b0) ac=>hK _ _ ?_
 refine Rk 1 2 [tP 1 0 0] a9 ac fun cd ba=>?_
 refine wf (XT (XT (Aa (Rk 0 1 [tA 7 (UB b r_ g d j f k),tP 1 0 0] ba ac fun ce bb=>?_))))
 obtain⟨x8,ex8,H⟩:=Av H
 refine wl fun K hK=>?_
 refine wc [.agg (UB b r_ g d j f k)] bb ac (Eo n ac.has r_ ((Ab (Ad p) (Ab (Ab Ac Ac) (Ab (Ad q) (Ab (Ad u) (Ab Ac (Ab Ac (Ab Ac Ac))))))):rep h r_ _) ex8) fun ck ak b4 ay ah z=>?_
 replace p:=p.mono ah
 replace q:=q.mono ah
 replace u:=u.mono ah
 obtain rfl:=ay
 refine⟨.one (.c (Ws x8)),rfl,fun b1 (bc:Kn 22 [(a,0)] [tI 8 x8,tA 7 (UB b r_ g d j f k),tP 1 0 0] b1)=>hK _ _ ?_⟩
 refine Rk 2 1 [tI 4 x8,tP 1 0 0] bc z fun cf bd=>?_
 refine wf (XT (Aa (Rk 0 2 [tB 10 (x8 != 0),tI 4 x8,tP 1 0 0] bd z fun cg ag=>?_)))
 refine wf (wC ((x8 != 0)) ag (fun ae=>?_) (fun ae=>?_))
 ·
  rw [ae,XW] at H
  refine XT (Aa (Rk 0 3 [tI 3 x8,tI 2 0] ag z fun ch be=>?_))
  refine wf (wp_ret ?_)
  obtain rfl:=XZ H
  exact rt (.tup [.c (Ws 0),.c (Ws x8)]) be z ⟨_,_,rfl,rfl,rfl⟩
 ·
  rw [ae,XV] at H
  refine wp_skip (XT (Aa (wl fun K hK=>?_)))
  refine OB ag z rfl rfl (by decide) fun o b2 ca (bf:Kn 22 [(a,0)] [(12,.one (.c (.map (some o)))),tB 10 (x8 != 0),tI 4 x8,tP 1 0 0] b2) (bs:Ah (Fr.put ⟨w,h,A6⟩ o (some (.map #[] 0))) ak [(a,0)] [⟨UB b r_ g d j f k,some 48⟩] [] (World.alloc b4 (.map #[] 0)))=>?_
  have ad:En ak (#[]:Array MapEntry).toList 0 ([]:List (Ar×Int)):=En.nil
  refine hK _ _ ?_
  refine wl fun K hK=>?_
  refine wa [.map none] bf bs fun l aq cn (bg:Kn 22 [(a,0),(l,0)] [tP 5 1 0,(12,.one (.c (.map (some o)))),tB 10 (x8 != 0),tI 4 x8,tP 1 0 0] aq) bt=>hK _ _ ?_
  refine wl fun K hK=>?_
  refine EZ 1 0 (.c (.map (some o))) [.map (some o)] bg bt fun co bh ao=>hK _ _ ?_
  have bi:Kn 22 [(a,0),(l,0)] [tP 5 1 0,tP 1 0 0] aq:=bh.kp
  refine wf (XT (Aa (Rk 0 5 [tI 17 (Wt (r_.to_-r_.fr)),tP 5 1 0,tP 1 0 0] bi ao fun ci bj=>?_)))
  refine wl fun K hK=>?_
  refine wa [Ws 0] bj ao fun m ar cp (bk:Kn 22 [(a,0),(l,0),(m,0)] [tP 6 2 0,tI 17 (Wt (r_.to_-r_.fr)),tP 5 1 0,tP 1 0 0] ar) bu=>hK _ _ ?_
  refine wl fun K hK=>?_
  refine EZ 2 0 (.c (Ws (Wt (r_.to_-r_.fr)))) [Ws (Wt (r_.to_-r_.fr))] bk bu fun av bl ap=>hK _ _ ?_
  have bm:Kn 22 [(a,0),(l,0),(m,0)] [tP 6 2 0,tP 5 1 0,tP 1 0 0] ar:=bl.kp
  refine wf (XT (Aa (Rk 0 1 [tA 18 (UB b r_ g d j f k),tP 6 2 0,tP 5 1 0,tP 1 0 0] bm ap fun cj bn=>?_)))
  obtain⟨al,ab,a6,ai⟩:=ap.settlePlc (i:=1) rfl
  replace ai:Ah (Fr.put ⟨w,h,A6⟩ o (some (.map #[] 0))) al [(a,0),(l,0),(m,0)] [⟨UB b r_ g d j f k,some 48⟩,⟨[.map (some o)],none⟩,⟨[Ws (Wt (r_.to_-r_.fr))],some 3⟩] [] av:=ai
  have af:AL al l [.map (some o)]:=AL.of (e:=[(a,0),(l,0),(m,0)]) (cs:=[.map (some o)]) rfl a6
  obtain⟨x,y,am,aj⟩:=ai.settlePlc (i:=0) rfl
  replace p:=p.mono (XU ab y)
  replace q:=q.mono (XU ab y)
  replace u:=u.mono (XU ab y)
  replace af:=af.mono y
  replace ad:=ad.mono (XU ab y)
  replace aj:Ah (Fr.put ⟨w,h,A6⟩ o (some (.map #[] 0))) x [(a,0),(l,0),(m,0)] [⟨UB b r_ g d j f k,none⟩,⟨[.map (some o)],none⟩,⟨[Ws (Wt (r_.to_-r_.fr))],some 3⟩] [] av:=aj
  have a4:CY x a (r_:Af):=CY.of (e:=[(a,0),(l,0),(m,0)]) (cs:=(UB b r_ g d j f k)) ((Ab (Ad p) (Ab (Ab Ac Ac) (Ab (Ad q) (Ab (Ad u) (Ab Ac (Ab Ac (Ab Ac Ac))))))):rep x (r_:Af) _) rfl am
  have cb:AL x a [.slice b r_.lA.length g,.int .i64 r_.turn.lo,.int .i64 r_.turn.hi,.slice d r_.lB.length j,.slice f r_.lC.length k,.int .i64 r_.lI,.int .i64 r_.gap,.int .i64 r_.fr,.int .i64 r_.to_]:=AL.of (e:=[(a,0),(l,0),(m,0)]) (cs:=[.slice b r_.lA.length g,.int .i64 r_.turn.lo,.int .i64 r_.turn.hi,.slice d r_.lB.length j,.slice f r_.lC.length k,.int .i64 r_.lI,.int .i64 r_.gap,.int .i64 r_.fr,.int .i64 r_.to_]) rfl am
  refine Hn 1 #[] #[.pointer (some ⟨l,0,none⟩),.pointer (some ⟨a,0,none⟩),.pointer (some ⟨m,0,none⟩)] bn rfl rfl (rfl) rfl (by decide) (by rfl) (by rfl) (by rfl) (by rfl) fun b3 (bo:Kn 22 [(a,0),(l,0),(m,0)] [(19,.one (.c (.func (.func 57) #[] #[.pointer (some ⟨l,0,none⟩),.pointer (some ⟨a,0,none⟩),.pointer (some ⟨m,0,none⟩)]))),tA 18 (UB b r_ g d j f k),tP 6 2 0,tP 5 1 0,tP 1 0 0] b3)=>?_
  obtain⟨dE,kH,H⟩:=Av H
  obtain⟨b8,a2,bq,bx⟩:=aj.lend1 o (Fr.put_X _ _ _) [2] [] (by kernel_rfl) (by kernel_rfl) (by kernel_rfl) (by kernel_rfl)
  obtain⟨b6,br,az,a5⟩:=Jk (([]:List (Ar×Int)),Wt (r_.to_-r_.fr)) ad (a2 _ _ (Fr.put_X _ _ _)) bq
  refine wl fun K hK=>?_
  refine OC [.agg (UB b r_ g d j f k),.c (.func (.func 57) #[] #[.pointer (some ⟨l,0,none⟩),.pointer (some ⟨a,0,none⟩),.pointer (some ⟨m,0,none⟩)])] _ bo rfl rfl (by decide) (by rfl) rfl (fun _ _=>by kernel_rfl) (FO n Kt (fun s y0 y1=>Ep n y0 y1 s.2 s.1 r_) (Ku n r_ a4 af) r_ ((Ab (Ad p) (Ab (Ab Ac Ac) (Ab (Ad q) (Ab (Ad u) (Ab Ac (Ab Ac (Ab Ac Ac))))))):rep x r_ _) (([]:List (Ar×Int)),Wt (r_.to_-r_.fr)) az br kH) fun cl b5 a0=>?_
  obtain⟨rfl,a3,b7,an,bz,a1,bv⟩:=a0
  obtain⟨ax,aw,bw,b9,_⟩:=a5 _ _ _ _ an bz a1 bv
  have aa:=bx _ _ _ _ [] an rfl (Nat.le_refl _) (by kernel_rfl) bw
  rw [Fr.put_put] at aa
  replace aa:Ah (Fr.put ⟨w,h,A6⟩ o (some (.map ax aw))) a3 [(a,0),(l,0),(m,0)] [⟨(Wp r_ b g d j f k),none⟩,⟨[.map (some o)],none⟩,⟨[Ws dE.2],some 3⟩] [] b5:=aa
  refine⟨.tup [],rfl,fun au (bp:Kn 22 [(a,0),(l,0),(m,0)] [(20,.tup []),(19,.one (.c (.func (.func 57) #[] #[.pointer (some ⟨l,0,none⟩),.pointer (some ⟨a,0,none⟩),.pointer (some ⟨m,0,none⟩)]))),tA 18 (UB b r_ g d j f k),tP 6 2 0,tP 5 1 0,tP 1 0 0] au)=>hK _ _ ?_⟩
  have a7:Kn 22 [(a,0),(l,0),(m,0)] [tP 6 2 0] au:=bp.kp
  refine wf (XT (Aa (Rk 0 3 [tI 3 0,tI 2 dE.2] a7 aa fun cc a8=>?_)))
  refine wf (wp_ret ?_)
  obtain rfl:=XZ H
  exact rt (.tup [.c (Ws dE.2),.c (Ws 0)]) a8 aa ⟨_,_,rfl,rfl,rfl⟩
end Go.Proofs.YtokchpjijlebiaaGreat
