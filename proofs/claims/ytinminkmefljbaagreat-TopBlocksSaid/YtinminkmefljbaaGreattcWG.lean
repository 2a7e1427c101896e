/- Each call computes its plain function. -/
import Derived.Test.YtinminkmefljbaaGreatProg
import Derived.Test.YtinminkmefljbaaGreattcWE
set_option linter.all false
namespace Go.Proofs.YtinminkmefljbaaGreat
open Go Go.RowKit
set_option maxRecDepth 100000
set_option maxHeartbeats 4000000
open Rep (rep)
open KRep (kv)
open VRep (rv)
theorem Fy.KL:KL Tryz.prog 88 Fy:=by
  refine KL.struct 5 (by decide) (fun x=>[.bool x.lG.a0,.bool x.lG.a1,.bool x.lG.a2,.bool x.lG.a3,.bool x.lG.a4,.bool x.lG.a5,.bool x.lG.a6,.bool x.lG.a7,.bool x.down.a0,.bool x.down.a1,.bool x.down.a2,.bool x.down.a3,.bool x.down.a4,.bool x.down.a5,.bool x.down.a6,.bool x.down.a7]) (fun _=>rfl) (by kernel_rfl) (fun _=>by kernel_rfl) (fun _=>by kernel_rfl) fun a b=>⟨((a.lG.a0 == b.lG.a0) && ((a.lG.a1 == b.lG.a1) && ((a.lG.a2 == b.lG.a2) && ((a.lG.a3 == b.lG.a3) && ((a.lG.a4 == b.lG.a4) && ((a.lG.a5 == b.lG.a5) && ((a.lG.a6 == b.lG.a6) && ((a.lG.a7 == b.lG.a7) && true)))))))) && (((a.down.a0 == b.down.a0) && ((a.down.a1 == b.down.a1) && ((a.down.a2 == b.down.a2) && ((a.down.a3 == b.down.a3) && ((a.down.a4 == b.down.a4) && ((a.down.a5 == b.down.a5) && ((a.down.a6 == b.down.a6) && ((a.down.a7 == b.down.a7) && true)))))))) && true),by kernel_rfl,?_⟩
  rcases a with⟨⟨a0,a1,a2,a3,a4,a5,a6,a7⟩,⟨a8,a9,a10,a11,a12,a13,a14,a15⟩⟩
  rcases b with⟨⟨b0,b1,b2,b3,b4,b5,b6,b7⟩,⟨b8,b9,b10,b11,b12,b13,b14,b15⟩⟩
  simp [and_assoc]
abbrev Mq (aI aN aL bV aG p)(q:Nat)(aB:Int)(s):=([(aI,0),(aN,0),(aL,0),(bV,0),(aG,0),(p,q+Yc aB*8),(s,0)]:AJ)
abbrev IC (aI aN aL bV aG p)(q:Nat)(aB:Int)(s aa)(ab:Nat)(aD:Int)(ac af):=([(aI,0),(aN,0),(aL,0),(bV,0),(aG,0),(p,q+Yc aB*8),(s,0),(aa,ab+Yc aD*2),(ac,0),(af,0)]:AJ)
abbrev WX (gX:AX):=([XR gX.many,XR gX.tm.a0,XR gX.tm.a1,XR gX.tm.a2,XR gX.tm.a3,XR gX.tm.a4,XR gX.tm.a5,XR gX.tm.a6,XR gX.tm.a7]:List SC)
abbrev Ul (aI aN aL bV aG p)(q:Nat)(aB:Int)(s aa)(ab:Nat)(aD:Int)(ac af ay)(az:Nat)(bB:Int):=([(aI,0),(aN,0),(aL,0),(bV,0),(aG,0),(p,q+Yc aB*8),(s,0),(aa,ab+Yc aD*2),(ac,0),(af,0),(ay,az+Yc bB*1)]:AJ)
abbrev Hh (f:(A1×A1)):=([.bool f.1.a0,.bool f.1.a1,.bool f.1.a2,.bool f.1.a3,.bool f.1.a4,.bool f.1.a5,.bool f.1.a6,.bool f.1.a7,.bool f.2.a0,.bool f.2.a1,.bool f.2.a2,.bool f.2.a3,.bool f.2.a4,.bool f.2.a5,.bool f.2.a6,.bool f.2.a7]:List SC)
abbrev VT (found:Bool)(many a)(breaks:List A1)(d ad)(y:Am)(ag ae ah aM)(cB:A1)(u)(eH:A4)(z)(f:(A1×A1)):=([⟨[.bool found],some 4⟩,⟨[XR many],some 3⟩,⟨[Yb a breaks.length d],none⟩,⟨Mh ad y ag ae ah,none⟩,⟨[.map (some aM)],none⟩,⟨WP cB,none⟩,⟨WP cB,some 82⟩,⟨NE u eH z,none⟩,⟨NE u eH z,some 86⟩,⟨Hh f,some 88⟩]:List C0)
abbrev D6 (aB)(breaks:List A1)(a d aA bK)(l:List Int)(bL):=([tI 20 aB,tI 19 ((breaks.length:Nat):Int),tS 18 a breaks.length d,tI 7 aA,tS 0 bK l.length bL,tP 2 3 0,tP 3 4 0,tP 4 0 0,tP 5 1 0]:TM)
abbrev Ec (aD)(dG:List A4)(g m aE aB)(breaks:List A1)(a d aA bK)(l:List Int)(bL):=((tI 29 aD)::(tI 28 ((dG.length:Nat):Int))::(tS 27 g dG.length m)::(tI 10 aE)::(D6 aB breaks a d aA bK l bL):TM)
abbrev Hi (breaks:List A1)(a d bK)(l:List Int)(bL):=([tI 19 ((breaks.length:Nat):Int),tS 18 a breaks.length d,tS 0 bK l.length bL,tP 2 3 0,tP 3 4 0,tP 4 0 0,tP 5 1 0]:TM)
abbrev G5 (eH:A4)(u z aD)(dG:List A4)(g m aE aB)(breaks:List A1)(a d aA bK)(l:List Int)(bL):=((tI 35 ((eH.lG.length:Nat):Int))::(tS 34 u eH.lG.length z)::(tP 13 9 0)::(tP 12 8 0)::(Ec aD dG g m aE aB breaks a d aA bK l bL):TM)
theorem Pt (n:Nat) {F:Fr} {h:Ac} {w:World} {aL bV aG aI aN:Nat} (l:List Int) {bK:Yd} {bL:Nat} (dP:At h bK bL l) (found:Bool) (many:Int) (breaks:List A1) (dU:B9 h aL breaks) (y:Am) (eL:B9 h bV y) (known:List (Fy×Int)) {aM:Nat} {cW:Array MapEntry} {cX:Nat} (cM:As h aG [.map (some aM)]) (hX_known:F.X aM=some (.map cW cX)) (hE_known:Cy h cW.toList cX known) (hm:Ai F h [(aI,0),(aN,0)] [⟨[.bool found],some 4⟩,⟨[XR many],some 3⟩] [] w) {r:Int×(List (Fy×Int))} (H:Gk n l found many breaks y known=some r) :
  Calls Tryz.prog 28 #[.slice bK l.length bL,.pointer (some ⟨aL,0,none⟩),.pointer (some ⟨bV,0,none⟩),.pointer (some ⟨aG,0,none⟩),.pointer (some ⟨aI,0,none⟩),.pointer (some ⟨aN,0,none⟩)] w (Jw fun v w'=>∃ (h':Ac)(cy:Array MapEntry)(ct:Nat),Ac.le h h'∧(v=.int .i64 r.1)∧Cy h' cy.toList ct r.2∧Ai (Fr.put F aM (some (.map cy ct))) h' [(aI,0),(aN,0)] [⟨[.bool found],some 4⟩,⟨[.int .i64 many],some 3⟩] [] w'):=by
 obtain⟨_,iG,iH⟩:=id dU
 obtain⟨a,d,rfl,ax⟩:=iG
 obtain⟨_,eD,kB⟩:=id eL
 obtain⟨_,_,rfl,⟨ad,ag,rfl,ar⟩,⟨_,_,rfl,⟨ae,ah,rfl,au⟩,rfl⟩⟩:=eD
 refine DZ (e:=[(aI,0),(aN,0),(aL,0),(bV,0),(aG,0)]) 84 [.c (Yb bK l.length bL),.c (.ptr 2 0),.c (.ptr 3 0),.c (.ptr 4 0),.c (.ptr 0 0),.c (.ptr 1 0)] Tryz.func28 rfl rfl rfl rfl fun t hk=>?_
 replace hm:=hm.addPlc (o:=0) (cs:=[Yb a breaks.length d]) (fun j c hj=>by rw [Y3]; exact iH j _ (Ak hj)) rfl (by kernel_rfl) (by kernel_rfl)
 replace hm:=hm.addPlc (o:=0) (cs:=[Yb ad y.room.length ag,Yb ae y.lG.length ah,XR y.broken]) (fun j c hj=>by rw [Y3]; exact kB j _ (Ak hj)) rfl (by kernel_rfl) (by kernel_rfl)
 replace hm:=hm.addPlc (o:=0) (cs:=[.map (some aM)]) (fun j c hj=>by rw [Y3]; exact cM j _ (Ak hj)) rfl (by kernel_rfl) (by kernel_rfl)
 rw [← Fr.put_self hX_known] at hm
 replace hm:Ai _ _ [(aI,0),(aN,0),(aL,0),(bV,0),(aG,0)] [⟨[.bool found],some 4⟩,⟨[XR many],some 3⟩,⟨[Yb a breaks.length d],none⟩,⟨[Yb ad y.room.length ag,Yb ae y.lG.length ah,XR y.broken],none⟩,⟨[.map (some aM)],none⟩] [] _:=hm
 unfold Gk at H
 refine XT (Aa (Rk 0 1 [tI 7 0,tS 0 bK l.length bL,tP 1 2 0,tP 2 3 0,tP 3 4 0,tP 4 0 0,tP 5 1 0] hk hm fun g2 d0=>?_))
 refine wf (wp_scope_straight (XT (wp_label (XT (XT (Aa (Rk 0 3 [tI 20 0,tI 19 ((breaks.length:Nat):Int),tS 18 a breaks.length d,tI 7 0,tS 0 bK l.length bL,tP 2 3 0,tP 3 4 0,tP 4 0 0,tP 5 1 0] d0 hm fun g4 d7=>?_)))))))
 refine wf ?_
 obtain⟨bt,cw,H⟩:=Ao H
 refine Ar (fun a' w'=>∃ (bv:Array MapEntry)(bu:Nat)(co:Array Value)(bp:Ac),a' = ⟨co,[]⟩∧Kn 84 [(aI,0),(aN,0),(aL,0),(bV,0),(aG,0)] [tI 7 bt.1] co∧Ai (Fr.put F aM (some (.map bv bu))) bp [(aI,0),(aN,0),(aL,0),(bV,0),(aG,0)] [⟨[.bool found],some 4⟩,⟨[XR many],some 3⟩,⟨[Yb a breaks.length d],none⟩,⟨Mh ad y ag ae ah,none⟩,⟨[.map (some aM)],none⟩] [] w'∧Ac.le h bp∧Cy bp bv.toList bu bt.2) ?_ ?_
 ·
  refine wp_block ?_
  refine Av (fun gc a' w'=>∃ (aB:Int)(aA:Int)(aC:List (Fy×Int))(bm:Array MapEntry)(bl:Nat)(cp:Array Value)(bf:Ac),a' = ⟨cp,[]⟩∧Kn 84 [(aI,0),(aN,0),(aL,0),(bV,0),(aG,0)] (D6 aB breaks a d aA bK l bL) cp∧Ai (Fr.put F aM (some (.map bm bl))) bf [(aI,0),(aN,0),(aL,0),(bV,0),(aG,0)] [⟨[.bool found],some 4⟩,⟨[XR many],some 3⟩,⟨[Yb a breaks.length d],none⟩,⟨Mh ad y ag ae ah,none⟩,⟨[.map (some aM)],none⟩] [] w'∧Ac.le h bf∧Cy bf bm.toList bl aC∧C5 gc l found many breaks y aB aA aC=some bt) n ?_ ?_
  ·
   exact XY 0 ⟨0,known,cW,cX,_,_,rfl,d7.kp,hm,Ac.le_refl _,hE_known,cw⟩
  rintro be _ im ⟨aB,aA,aC,bm,bl,cp,bf,rfl,fc,cj,ao,bw,aj⟩
  clear cw
  obtain _ | be:=be
  ·
   rw [C5] at aj; cases aj
  rw [C5] at aj
  replace dP:=dP.mono ao
  replace ax:=ax.mono ao
  replace ar:=ar.mono ao
  replace au:=au.mono ao
  refine XT (Aa (Rk 0 1 ((tB 21 (decide (aB<((breaks.length:Nat):Int))))::(D6 aB breaks a d aA bK l bL)) fc cj fun hx cc=>?_))
  refine wf (XT (wC (decide (aB<((breaks.length:Nat):Int))) cc (fun b6=>?_) (fun b6=>?_)))
  ·
   rw [b6,XW] at aj
   refine wp_skip (XT (wp_block (XT (Aa ?_))))
   obtain⟨cB,gL,aj⟩:=Ao aj
   obtain⟨fv,f0,ga⟩:=Aj gL
   obtain⟨p,q,gw,dw,f5,dz⟩:=ax.get (by decide) ga
   obtain⟨_,_,rfl,rfl,⟨_,_,rfl,rfl,⟨_,_,rfl,rfl,⟨_,_,rfl,rfl,⟨_,_,rfl,rfl,⟨_,_,rfl,rfl,⟨_,_,rfl,rfl,rfl⟩⟩⟩⟩⟩⟩⟩:=f5
   have dd:=cj.addPlc (b:=p) (o:=q+Yc aB*8) (cs:=(WP cB)) (fun j c hj=>dz j _ (Ak hj)) rfl (by kernel_rfl) (by kernel_rfl)
   refine A9 0 (aB) rfl rfl (rfl) rfl (by decide) cc (by rfl) (by rfl) (by rfl) dw (by rfl) fv f0 (by kernel_rfl) fun gp (fd:Kn _ [(aI,0),(aN,0),(aL,0),(bV,0),(aG,0),(p,q+Yc aB*8)] ((tP 22 5 0)::(tB 21 (decide (aB<((breaks.length:Nat):Int))))::(D6 aB breaks a d aA bK l bL)) _)=>?_
   refine Rk 1 1 ((tA 23 (WP cB))::(D6 aB breaks a d aA bK l bL)) fd dd fun hy fe=>?_
   refine wl fun K hK=>?_
   refine wa [.bool false,.bool false,.bool false,.bool false,.bool false,.bool false,.bool false,.bool false] fe dd fun s dm io (ff:Kn _ (Mq aI aN aL bV aG p q aB s) ((tP 9 6 0)::(tA 23 (WP cB))::(D6 aB breaks a d aA bK l bL)) _) fq=>hK _ _ ?_
   refine wl fun K hK=>?_
   refine DT 6 0 (.agg (WP cB)) (WP cB) ff fq fun ip fg b1=>hK _ _ ?_
   have fh:Kn _ _ ((tP 9 6 0)::(D6 aB breaks a d aA bK l bL)) _:=fg.kp
   refine wf (XT (Aa (Rk 0 1 ((tI 10 0)::(tP 9 6 0)::(D6 aB breaks a d aA bK l bL)) fh b1 fun hz fi=>?_)))
   refine wf (XT (XT (Aa (Rk 0 3 ((tA 26 (WP cB))::(tS 25 bK l.length bL)::(tA 24 (Mh ad y ag ae ah))::(tI 10 0)::(D6 aB breaks a d aA bK l bL)) fi b1 fun h0 fj=>?_))))
   obtain⟨dG,iP,aj⟩:=Ao aj
   refine wl fun K hK=>?_
   refine wc [.agg (Mh ad y ag ae ah),.c (Yb bK l.length bL),.agg (WP cB)] fj b1 (J8 be b1.has y ((Ab (Af ar) (Ab (Af au) Ad)):rep bf y _) l dP cB ((Ab Ag (Ab Ag (Ab Ag (Ab Ag (Ab Ag (Ab Ag (Ab Ag Ag))))))):rep bf cB _) iP) fun h8 c2 iq ds ap de=>?_
   replace ar:=ar.mono ap
   replace au:=au.mono ap
   replace bw:=bw.mono ap
   obtain⟨g,m,rfl,bs⟩:=ds
   refine⟨.one (.c (Yb g dG.length m)),rfl,fun gq (fk:Kn _ (Mq aI aN aL bV aG p q aB s) ((tS 27 g dG.length m)::(tA 26 (WP cB))::(tS 25 bK l.length bL)::(tA 24 (Mh ad y ag ae ah))::(tI 10 0)::(D6 aB breaks a d aA bK l bL)) _)=>hK _ _ ?_⟩
   refine Rk 4 2 ((tI 29 0)::(tI 28 ((dG.length:Nat):Int))::(tS 27 g dG.length m)::(tI 10 0)::(D6 aB breaks a d aA bK l bL)) fk de fun h1 fl=>?_
   refine wf ?_
   obtain⟨al,cx,aj⟩:=Ao aj
   refine Ar (fun a' w'=>∃ (bb:Array MapEntry)(a9:Nat)(cq:Array Value)(bc:Ac),a' = ⟨cq,[]⟩∧Kn 84 (Mq aI aN aL bV aG p q aB s) ((tI 10 al.1)::(D6 aB breaks a d aA bK l bL)) cq∧Ai (Fr.put F aM (some (.map bb a9))) bc (Mq aI aN aL bV aG p q aB s) [⟨[.bool found],some 4⟩,⟨[XR many],some 3⟩,⟨[Yb a breaks.length d],none⟩,⟨Mh ad y ag ae ah,none⟩,⟨[.map (some aM)],none⟩,⟨WP cB,none⟩,⟨WP cB,some 82⟩] [] w'∧Ac.le c2 bc∧Cy bc bb.toList a9 al.2) ?_ ?_
   ·
    refine wp_block ?_
    refine Av (fun gd a' w'=>∃ (aD:Int)(aE:Int)(aF:List (Fy×Int))(ba:Array MapEntry)(a8:Nat)(cr:Array Value)(bg:Ac),a' = ⟨cr,[]⟩∧Kn 84 (Mq aI aN aL bV aG p q aB s) (Ec aD dG g m aE aB breaks a d aA bK l bL) cr∧Ai (Fr.put F aM (some (.map ba a8))) bg (Mq aI aN aL bV aG p q aB s) [⟨[.bool found],some 4⟩,⟨[XR many],some 3⟩,⟨[Yb a breaks.length d],none⟩,⟨Mh ad y ag ae ah,none⟩,⟨[.map (some aM)],none⟩,⟨WP cB,none⟩,⟨WP cB,some 82⟩] [] w'∧Ac.le c2 bg∧Cy bg ba.toList a8 aF∧C4 gd many y dG aD aE aF=some al) be ?_ ?_
    ·
     exact XY 0 ⟨0,aC,bm,bl,_,_,rfl,fl.kp,de,Ac.le_refl _,bw,cx⟩
    rintro bj _ ir ⟨aD,aE,aF,ba,a8,cr,bg,rfl,fm,ck,aq,av,ai⟩
    clear cx
    obtain _ | bj:=bj
    ·
     rw [C4] at ai; cases ai
    rw [C4] at ai
    replace ar:=ar.mono aq
    replace au:=au.mono aq
    replace bs:=bs.mono aq
    refine XT (Aa (Rk 0 1 ((tB 30 (decide (aD<((dG.length:Nat):Int))))::(Ec aD dG g m aE aB breaks a d aA bK l bL)) fm ck fun h2 cd=>?_))
    refine wf (XT (wC (decide (aD<((dG.length:Nat):Int))) cd (fun b7=>?_) (fun b7=>?_)))
    ·
     rw [b7,XW] at ai
     refine wp_skip (XT (wp_block (XT (Aa ?_))))
     obtain⟨eH,jF,ai⟩:=Ao ai
     obtain⟨fr,fw,f6⟩:=Aj jF
     obtain⟨aa,ab,gu,du,f3,dx⟩:=bs.get (by decide) f6
     obtain⟨_,_,rfl,⟨u,z,rfl,bi⟩,rfl⟩:=f3
     have c8:=ck.addPlc (b:=aa) (o:=ab+Yc aD*2) (cs:=(NE u eH z)) (fun j c hj=>dx j _ (Ak hj)) rfl (by kernel_rfl) (by kernel_rfl)
     refine A9 0 (aD) rfl rfl (rfl) rfl (by decide) cd (by rfl) (by rfl) (by rfl) du (by rfl) fr fw (by kernel_rfl) fun gf (d1:Kn _ [(aI,0),(aN,0),(aL,0),(bV,0),(aG,0),(p,q+Yc aB*8),(s,0),(aa,ab+Yc aD*2)] ((tP 31 7 0)::(tB 30 (decide (aD<((dG.length:Nat):Int))))::(Ec aD dG g m aE aB breaks a d aA bK l bL)) _)=>?_
     refine Rk 1 1 ((tA 32 (NE u eH z))::(Ec aD dG g m aE aB breaks a d aA bK l bL)) d1 c8 fun g3 d2=>?_
     refine wl fun K hK=>?_
     refine wa [Yb none 0 0,XR 0] d2 c8 fun ac di h9 (d3:Kn _ [(aI,0),(aN,0),(aL,0),(bV,0),(aG,0),(p,q+Yc aB*8),(s,0),(aa,ab+Yc aD*2),(ac,0)] ((tP 12 8 0)::(tA 32 (NE u eH z))::(Ec aD dG g m aE aB breaks a d aA bK l bL)) _) fo=>hK _ _ ?_
     refine wl fun K hK=>?_
     refine DT 8 0 (.agg (NE u eH z)) (NE u eH z) d3 fo fun ia d4 fp=>hK _ _ ?_
     have d5:Kn _ _ ((tP 12 8 0)::(Ec aD dG g m aE aB breaks a d aA bK l bL)) _:=d4.kp
     refine wf (XT (Aa (wl fun K hK=>?_)))
     refine wa [.bool false,.bool false,.bool false,.bool false,.bool false,.bool false,.bool false,.bool false,.bool false,.bool false,.bool false,.bool false,.bool false,.bool false,.bool false,.bool false] d5 fp fun af gg ib (d6:Kn _ (IC aI aN aL bV aG p q aB s aa ab aD ac af) ((tP 13 9 0)::(tP 12 8 0)::(Ec aD dG g m aE aB breaks a d aA bK l bL)) _) c9=>hK _ _ ?_
     refine wf (XT (XT (Aa (Rk 0 4 ((tI 36 0)::(G5 eH u z aD dG g m aE aB breaks a d aA bK l bL)) d6 c9 fun g5 d8=>?_))))
     refine wf ?_
     obtain⟨f,cv,ai⟩:=Ao ai
     refine Ar (fun a' w'=>∃ (cm:Array Value)(bo:Ac),a' = ⟨cm,[]⟩∧Kn 84 (IC aI aN aL bV aG p q aB s aa ab aD ac af) ((tP 13 9 0)::(tP 12 8 0)::(Ec aD dG g m aE aB breaks a d aA bK l bL)) cm∧Ai (Fr.put F aM (some (.map ba a8))) bo (IC aI aN aL bV aG p q aB s aa ab aD ac af) (VT found many a breaks d ad y ag ae ah aM cB u eH z f) [] w'∧Ac.le bg bo) ?_ ?_
     ·
      refine wp_block ?_
      refine Av (fun gb a' w'=>∃ (bB:Int)(fV:A1)(dS:A1)(cn:Array Value)(b2:Ac),a' = ⟨cn,[]⟩∧Kn 84 (IC aI aN aL bV aG p q aB s aa ab aD ac af) ((tI 36 bB)::(G5 eH u z aD dG g m aE aB breaks a d aA bK l bL)) cn∧Ai (Fr.put F aM (some (.map ba a8))) b2 (IC aI aN aL bV aG p q aB s aa ab aD ac af) [⟨[.bool found],some 4⟩,⟨[XR many],some 3⟩,⟨[Yb a breaks.length d],none⟩,⟨Mh ad y ag ae ah,none⟩,⟨[.map (some aM)],none⟩,⟨WP cB,none⟩,⟨WP cB,some 82⟩,⟨NE u eH z,none⟩,⟨NE u eH z,some 86⟩,⟨[.bool fV.a0,.bool fV.a1,.bool fV.a2,.bool fV.a3,.bool fV.a4,.bool fV.a5,.bool fV.a6,.bool fV.a7,.bool dS.a0,.bool dS.a1,.bool dS.a2,.bool dS.a3,.bool dS.a4,.bool dS.a5,.bool dS.a6,.bool dS.a7],some 88⟩] [] w'∧Ac.le bg b2∧C3 gb eH bB fV dS=some f) bj ?_ ?_
      ·
       exact XY 0 ⟨A1.mk false false false false false false false false,A1.mk false false false false false false false false,_,_,rfl,d8.kp,c9,Ac.le_refl _,cv⟩
      rintro cl _ ic ⟨bB,fV,dS,cn,b2,rfl,d9,bz,ce,ak⟩
      clear cv
      obtain _ | cl:=cl
      ·
       rw [C3] at ak; cases ak
      rw [C3] at ak
      replace bi:=bi.mono ce
      refine XT (Aa (Rk 0 1 ((tB 37 (decide (bB<((eH.lG.length:Nat):Int))))::(tI 36 bB)::(G5 eH u z aD dG g m aE aB breaks a d aA bK l bL)) d9 bz fun g6 b9=>?_))
      refine wf (XT (wC (decide (bB<((eH.lG.length:Nat):Int))) b9 (fun b3=>?_) (fun b3=>?_)))
      ·
       rw [b3,XW] at ak
       refine wp_skip (XT (wp_block (XT (Aa (Rk 0 1 ((tI 38 bB)::(tI 36 bB)::(G5 eH u z aD dG g m aE aB breaks a d aA bK l bL)) b9 bz fun g7 ea=>?_)))))
       obtain⟨fO,jU,ak⟩:=Ao ak
       obtain⟨fs,fx,f7⟩:=Aj jU
       obtain⟨ay,az,gv,dv,f4,dy⟩:=bi.get (by decide) f7
       obtain rfl:=f4
       have bd:=bz.addPlc (b:=ay) (o:=az+Yc bB*1) (cs:=[XR fO]) (fun j c hj=>dy j _ (Ak hj)) rfl (by kernel_rfl) (by kernel_rfl)
       refine A9 1 (bB) rfl rfl (rfl) rfl (by decide) ea (by rfl) (by rfl) (by rfl) dv (by rfl) fs fx (by kernel_rfl) fun gh (eb:Kn _ (Ul aI aN aL bV aG p q aB s aa ab aD ac af ay az bB) ((tP 39 10 0)::(tI 38 bB)::(tI 36 bB)::(G5 eH u z aD dG g m aE aB breaks a d aA bK l bL)) _)=>?_
       refine Rk 2 3 ((tI 15 fO)::(tI 14 bB)::(tI 36 bB)::(G5 eH u z aD dG g m aE aB breaks a d aA bK l bL)) eb bd fun g8 ec=>?_
       refine wf (Au (by kernel_rfl) ?_)
       replace bd:=bd.drew
       refine Ax [] (Ul aI aN aL bV aG p q aB s aa ab aD ac af ay az bB) [⟨[.bool found],some 4⟩,⟨[XR many],some 3⟩,⟨[Yb a breaks.length d],none⟩,⟨Mh ad y ag ae ah,none⟩,⟨[.map (some aM)],none⟩,⟨WP cB,none⟩,⟨WP cB,some 82⟩,⟨NE u eH z,none⟩,⟨NE u eH z,some 86⟩,⟨[],some 88⟩,⟨[XR fO],none⟩] ?_
       refine Dj [0,1,2,3,4,5,6] [6,5,4,3,2,1,0] [47,46,42,41,36,35,34,13,12,29,28,27,10,20,19,18,7,0,2,3,4,5] ((tP 47 9 0)::(tB 46 (decide (bB≥eH.down)))::(tI 42 fO)::(tI 41 fO)::(tI 36 bB)::(G5 eH u z aD dG g m aE aB breaks a d aA bK l bL)) (fun _ _ _ _ _ h=>h) ec (Ay.forget [9] bd.plOk) (by kernel_rfl) (by rfl) (by kernel_rfl) fun g9 c3=>?_
       obtain⟨fN,jE,ak⟩:=Ao ak
       obtain⟨ft,fy⟩:=BI jE
       refine Jn 7 (.one (.c (.ptr 9 (0+Yc fO*1)))) (fun _ _ _ _ _ h=>h) rfl (by kernel_rfl) (by kernel_rfl) (rfl) rfl (Ay.forget [9] bd.plOk) (fun _ h=>h) (fun w=>AZ (E:=4) c3 rfl (by kernel_rfl) (by kernel_rfl) (by rfl) (by rfl) ft fy) (c3.put (by decide) _) fun gi (ed:Kn _ (Ul aI aN aL bV aG p q aB s aa ab aD ac af ay az bB) ((tP 48 9 (0+Yc fO*1))::(tP 47 9 0)::(tB 46 (decide (bB≥eH.down)))::(tI 42 fO)::(tI 41 fO)::(tI 36 bB)::(G5 eH u z aD dG g m aE aB breaks a d aA bK l bL)) _)=>?_
       refine Dj [9] [9,7,6,5,4,3,2,1,0] [49,48,46,42,36,35,34,13,12,29,28,27,10,20,19,18,7,0,2,3,4,5] ((tP 49 9 8)::(tP 48 9 (0+Yc fO*1))::(tB 46 (decide (bB≥eH.down)))::(tI 42 fO)::(tI 36 bB)::(G5 eH u z aD dG g m aE aB breaks a d aA bK l bL)) (fun _ _ _ _ _ h=>h) ed (Ay.forget [9] bd.plOk) (by kernel_rfl) (by rfl) (by kernel_rfl) fun ha ee=>?_
       obtain⟨us0,eus0,ak⟩:=Ao ak
       obtain⟨gy,g0,f8⟩:=A1.setI_some eus0
       refine Dl 8 fun K hK=>?_
       refine DS 9 (0+(fO:Int).toNat*1) (.c (.bool true)) [.bool us0.a0,.bool us0.a1,.bool us0.a2,.bool us0.a3,.bool us0.a4,.bool us0.a5,.bool us0.a6,.bool us0.a7,.bool dS.a0,.bool dS.a1,.bool dS.a2,.bool dS.a3,.bool dS.a4,.bool dS.a5,.bool dS.a6,.bool dS.a7] ee bd rfl rfl (by rfl) (by rfl) (by rfl) (by kernel_rfl) (by refine decide_eq_true ?_; show(0+(fO:Int).toNat*1)+1≤16; omega) (F7 (fun(y:Bool)=>([.bool y]:List SC)) 1 (fun _=>rfl) [] [.bool dS.a0,.bool dS.a1,.bool dS.a2,.bool dS.a3,.bool dS.a4,.bool dS.a5,.bool dS.a6,.bool dS.a7] fV.toL us0.toL (fO:Int).toNat true f8 (show(fO:Int).toNat<8 by omega) rfl rfl rfl) fun ie c4 cg=>hK _ _ (Ay.forget [9] cg.plOk) ?_
       obtain⟨jM,kY,ak⟩:=Ao ak
       obtain⟨fu,fz⟩:=BI kY
       refine Jn 10 (.one (.c (.ptr 9 (8+Yc fO*1)))) (fun _ _ _ _ _ h=>h) rfl (by kernel_rfl) (by kernel_rfl) (rfl) rfl (Ay.forget [9] cg.plOk) (fun _ h=>h) (fun w=>AZ (E:=4) c4 rfl (by kernel_rfl) (by kernel_rfl) (by rfl) (by rfl) fu fz) (c4.put (by decide) _) fun dj (ef:Kn _ (Ul aI aN aL bV aG p q aB s aa ab aD ac af ay az bB) ((tP 50 9 (8+Yc fO*1))::(tP 49 9 8)::(tP 48 9 (0+Yc fO*1))::(tB 46 (decide (bB≥eH.down)))::(tI 42 fO)::(tI 36 bB)::(G5 eH u z aD dG g m aE aB breaks a d aA bK l bL)) _)=>?_
       obtain⟨us1,eus1,ak⟩:=Ao ak
       obtain⟨gz,g1,f9⟩:=A1.setI_some eus1
       refine CU 11 rfl (by kernel_rfl) (by decide) (rfl) (by kernel_rfl) fun K hK=>?_
       refine DS 9 (8+(fO:Int).toNat*1) (.c (.bool (decide (bB≥eH.down)))) [.bool us0.a0,.bool us0.a1,.bool us0.a2,.bool us0.a3,.bool us0.a4,.bool us0.a5,.bool us0.a6,.bool us0.a7,.bool us1.a0,.bool us1.a1,.bool us1.a2,.bool us1.a3,.bool us1.a4,.bool us1.a5,.bool us1.a6,.bool us1.a7] ef cg rfl rfl (by rfl) (by rfl) (by rfl) (by kernel_rfl) (by refine decide_eq_true ?_; show(8+(fO:Int).toNat*1)+1≤16; omega) (F7 (fun(y:Bool)=>([.bool y]:List SC)) 1 (fun _=>rfl) [.bool us0.a0,.bool us0.a1,.bool us0.a2,.bool us0.a3,.bool us0.a4,.bool us0.a5,.bool us0.a6,.bool us0.a7] [] dS.toL us1.toL (fO:Int).toNat (decide (bB≥eH.down)) f9 (show(fO:Int).toNat<8 by omega) rfl rfl rfl) fun ig eg da=>hK _ _ ?_
       have eh:Kn _ _ ((tI 36 bB)::(G5 eH u z aD dG g m aE aB breaks a d aA bK l bL)) _:=eg.kp
       refine Iv (by kernel_rfl) (Aa (Rk 0 2 ((tI 36 (IntKind.i64.wrap (bB+1)))::(G5 eH u z aD dG g m aE aB breaks a d aA bK l bL)) eh da fun hc ei=>?_))
       refine wf ?_
       exact XY cl ⟨Y4 _,XY (IntKind.i64.wrap (bB+1)) ⟨us0,us1,_,_,rfl,(ei.keep [36,35,34,13,12,29,28,27,10,20,19,18,7,0,2,3,4,5] (by rfl)).cut 10 (by kernel_rfl),da.cutPl 10 (by kernel_rfl),ce,ak⟩⟩
      rw [b3,XV] at ak
      refine wp_exit ?_
      obtain rfl:=XZ ak
      exact XY _ ⟨_,rfl,b9.kp,bz,ce⟩
     rintro _ ih ⟨cm,bo,rfl,ej,am,an⟩
     replace ar:=ar.mono an
     replace au:=au.mono an
     replace bi:=bi.mono an
     replace av:=av.mono an
     refine XT (XT (Aa (Rk 0 2 ((tA 54 (Hh f))::(53,.one (.c (.map (some aM))))::(tP 13 9 0)::(tP 12 8 0)::(Ec aD dG g m aE aB breaks a d aA bK l bL)) ej am fun hd ek=>?_)))
     obtain⟨gB,ex55,ai⟩:=Ao ai
     refine wl fun K hK=>?_
     refine HV (KT:=88) (E:=3) (k:=((Fy.mk f.1 f.2):Fy)) (0:Int) (.agg (Hh f)) ek rfl rfl (by decide) (by rfl) (by rfl) (by kernel_rfl) Fy.KL (am.ext (Fr.put_X _ _ _)) av rfl (by kernel_rfl) rfl fun h3 df=>?_
     rw [XZ ex55] at df ⊢
     obtain rfl:=df
     refine⟨.tup [.c (XR gB.1),.c (.bool gB.2)],rfl,fun gj (el:Kn _ (IC aI aN aL bV aG p q aB s aa ab aD ac af) ((55,.tup [.c (XR gB.1),.c (.bool gB.2)])::(tA 54 (Hh f))::(53,.one (.c (.map (some aM))))::(tP 13 9 0)::(tP 12 8 0)::(Ec aD dG g m aE aB breaks a d aA bK l bL)) _)=>hK _ _ ?_⟩
     refine Rk 3 5 ((tB 17 gB.2)::(tP 13 9 0)::(tP 12 8 0)::(Ec aD dG g m aE aB breaks a d aA bK l bL)) el am fun he em=>?_
     refine wf (XT (Aa (Rk 0 2 ((tB 59 (!gB.2))::(tP 13 9 0)::(tP 12 8 0)::(Ec aD dG g m aE aB breaks a d aA bK l bL)) em am fun hf ca=>?_)))
     refine wf (wC ((!gB.2)) ca (fun b4=>?_) (fun b4=>?_))
     ·
      rw [b4,XW] at ai
      refine Au (by kernel_rfl) ?_
      replace am:=am.drew
      refine Ax [] (IC aI aN aL bV aG p q aB s aa ab aD ac af) (VT found many a breaks d ad y ag ae ah aM cB u eH z f) ?_
      refine Dr [0,1,2,3] (dn 3) ((tA 63 (NE u eH z))::(tA 62 (Mh ad y ag ae ah))::(tA 61 (Hh f))::(60,.one (.c (.map (some aM))))::(tP 13 9 0)::(Ec aD dG g m aE aB breaks a d aA bK l bL)) ca am fun hg en=>?_
      obtain⟨gX,lA,ai⟩:=Ao ai
      refine Dl 4 fun K hK=>?_
      refine wc [.agg (Mh ad y ag ae ah),.agg (NE u eH z)] en am (KV bj am.has y ((Ab (Af ar) (Ab (Af au) Ad)):rep bo y _) eH ((Ab (Af bi) Ad):rep bo eH _) lA) fun h4 dt ii dq c7 ch=>?_
      replace av:=av.mono c7
      obtain⟨_,rfl,⟨_,_,rfl,rfl,⟨_,_,rfl,rfl,⟨_,_,rfl,rfl,⟨_,_,rfl,rfl,⟨_,_,rfl,rfl,⟨_,_,rfl,rfl,⟨_,_,rfl,rfl,⟨_,_,rfl,rfl,rfl⟩⟩⟩⟩⟩⟩⟩⟩⟩:=dq
      refine⟨.one (.agg (WX gX)),rfl,fun gk (eo:Kn _ (IC aI aN aL bV aG p q aB s aa ab aD ac af) ((tA 64 (WX gX))::(tA 63 (NE u eH z))::(tA 62 (Mh ad y ag ae ah))::(tA 61 (Hh f))::(60,.one (.c (.map (some aM))))::(tP 13 9 0)::(Ec aD dG g m aE aB breaks a d aA bK l bL)) _)=>hK _ _ ch.plOk ?_⟩
      refine Dr [5] (dn 5) ((tI 65 gX.many)::(tA 61 (Hh f))::(60,.one (.c (.map (some aM))))::(tP 13 9 0)::(Ec aD dG g m aE aB breaks a d aA bK l bL)) eo ch fun dk ep=>?_
      refine Dl 6 fun K hK=>?_
      refine KN (KT:=88) (E:=3) (k:=((Fy.mk f.1 f.2):Fy)) (x:=(gX.many:Int)) (.agg (Hh f)) (.c (XR gX.many)) ep ch rfl rfl (by rfl) (by rfl) (by rfl) (by kernel_rfl) Fy.KL av rfl rfl fun cz cu gr c0 (er:Kn _ (IC aI aN aL bV aG p q aB s aa ab aD ac af) ((tI 65 gX.many)::(tA 61 (Hh f))::(60,.one (.c (.map (some aM))))::(tP 13 9 0)::(Ec aD dG g m aE aB breaks a d aA bK l bL)) _) (bh:Ai _ _ (IC aI aN aL bV aG p q aB s aa ab aD ac af) (VT found many a breaks d ad y ag ae ah aM cB u eH z f) [] _)=>hK _ _ bh.plOk ?_
      have es:Kn _ _ ((tP 13 9 0)::(Ec aD dG g m aE aB breaks a d aA bK l bL)) _:=er.kp
      refine AL (by kernel_rfl) (Aa (Rk 0 3 ((tA 68 (Hh f))::(67,.one (.c (.map (some aM))))::(tI 66 aE)::(tI 29 aD)::(tI 28 ((dG.length:Nat):Int))::(tS 27 g dG.length m)::(D6 aB breaks a d aA bK l bL)) es bh fun hh et=>?_))
      obtain⟨eZ,jK,ai⟩:=Ao ai
      refine wl fun K hK=>?_
      refine HV (KT:=88) (E:=3) (k:=((Fy.mk f.1 f.2):Fy)) (0:Int) (.agg (Hh f)) et rfl rfl (by decide) (by rfl) (by rfl) (by kernel_rfl) Fy.KL (bh.ext (Fr.put_X _ _ _)) c0 rfl (by kernel_rfl) rfl fun h5 dg=>?_
      rw [XZ jK] at dg ⊢
      obtain rfl:=dg
      refine⟨.one (.c (XR eZ.1)),rfl,fun gl (eu:Kn _ (IC aI aN aL bV aG p q aB s aa ab aD ac af) ((tI 69 eZ.1)::(tA 68 (Hh f))::(67,.one (.c (.map (some aM))))::(tI 66 aE)::(tI 29 aD)::(tI 28 ((dG.length:Nat):Int))::(tS 27 g dG.length m)::(D6 aB breaks a d aA bK l bL)) _)=>hK _ _ ?_⟩
      refine Rk 4 2 ((tI 10 (IntKind.i64.wrap (aE+eZ.1)))::(tI 29 aD)::(tI 28 ((dG.length:Nat):Int))::(tS 27 g dG.length m)::(D6 aB breaks a d aA bK l bL)) eu bh fun hi ev=>?_
      refine wf (Aa (Rk 0 2 ((tI 29 (IntKind.i64.wrap (aD+1)))::(tI 10 (IntKind.i64.wrap (aE+eZ.1)))::(tI 28 ((dG.length:Nat):Int))::(tS 27 g dG.length m)::(D6 aB breaks a d aA bK l bL)) ev bh fun hl ew=>?_))
      refine wf ?_
      exact XY bj ⟨Y4 _,XY (IntKind.i64.wrap (aD+1)) ⟨IntKind.i64.wrap (aE+eZ.1),Hp aF (Fy.mk f.1 f.2) gX.many,cz,cu,_,_,rfl,(ew.keep [29,28,27,10,20,19,18,7,0,2,3,4,5] (by rfl)).cut 7 (by kernel_rfl),bh.cutPl 7 (by kernel_rfl),XU aq (XU an c7),c0,ai⟩⟩
     rw [b4,XV] at ai
     refine wp_skip (Aa (Rk 0 3 ((tA 68 (Hh f))::(67,.one (.c (.map (some aM))))::(tI 66 aE)::(tI 29 aD)::(tI 28 ((dG.length:Nat):Int))::(tS 27 g dG.length m)::(D6 aB breaks a d aA bK l bL)) ca am fun hn ex=>?_))
     obtain⟨eZ,jK,ai⟩:=Ao ai
     refine wl fun K hK=>?_
     refine HV (KT:=88) (E:=3) (k:=((Fy.mk f.1 f.2):Fy)) (0:Int) (.agg (Hh f)) ex rfl rfl (by decide) (by rfl) (by rfl) (by kernel_rfl) Fy.KL (am.ext (Fr.put_X _ _ _)) av rfl (by kernel_rfl) rfl fun h6 dh=>?_
     rw [XZ jK] at dh ⊢
     obtain rfl:=dh
     refine⟨.one (.c (XR eZ.1)),rfl,fun gm (ey:Kn _ (IC aI aN aL bV aG p q aB s aa ab aD ac af) ((tI 69 eZ.1)::(tA 68 (Hh f))::(67,.one (.c (.map (some aM))))::(tI 66 aE)::(tI 29 aD)::(tI 28 ((dG.length:Nat):Int))::(tS 27 g dG.length m)::(D6 aB breaks a d aA bK l bL)) _)=>hK _ _ ?_⟩
     refine Rk 4 2 ((tI 10 (IntKind.i64.wrap (aE+eZ.1)))::(tI 29 aD)::(tI 28 ((dG.length:Nat):Int))::(tS 27 g dG.length m)::(D6 aB breaks a d aA bK l bL)) ey am fun ho ez=>?_
     refine wf (Aa (Rk 0 2 ((tI 29 (IntKind.i64.wrap (aD+1)))::(tI 10 (IntKind.i64.wrap (aE+eZ.1)))::(tI 28 ((dG.length:Nat):Int))::(tS 27 g dG.length m)::(D6 aB breaks a d aA bK l bL)) ez am fun hp e0=>?_))
     refine wf ?_
     exact XY bj ⟨Y4 _,XY (IntKind.i64.wrap (aD+1)) ⟨IntKind.i64.wrap (aE+eZ.1),aF,ba,a8,_,_,rfl,(e0.keep [29,28,27,10,20,19,18,7,0,2,3,4,5] (by rfl)).cut 7 (by kernel_rfl),am.cutPl 7 (by kernel_rfl),XU aq an,av,ai⟩⟩
    rw [b7,XV] at ai
    refine wp_exit ?_
    obtain rfl:=XZ ai
    exact XY ba ⟨a8,_,_,rfl,cd.kp,ck,aq,av⟩
   rintro _ ij ⟨bb,a9,cq,bc,rfl,e1,db,cf,bn⟩
   refine XT (Aa (Rk 0 2 ((tI 73 al.1)::(tI 72 aA)::(tI 20 aB)::(Hi breaks a d bK l bL)) e1 db fun hq e2=>?_))
   refine wl fun K hK=>?_
   refine wS 3 1 [XR aA,XR al.1] e2 db fun bk gn gs (e3:Kn _ (Mq aI aN aL bV aG p q aB s) ((tS 74 bk 2 2)::(tI 73 al.1)::(tI 72 aA)::(tI 20 aB)::(Hi breaks a d bK l bL)) _) dc=>?_
   have b8:Ae bc ([aA,al.1]:List Int) ([.int .i64 aA,.int .i64 al.1]:Ye):=⟨_,_,rfl,(Ad:rep bc (aA:Int) _),⟨_,_,rfl,(Ad:rep bc (al.1:Int) _),rfl⟩⟩
   refine hK _ _ ?_
   obtain⟨c1,br,f2,b0⟩:=dc.settle (i:=0) rfl
   replace b8:=b8.mono br
   replace b0:Ai _ _ (Mq aI aN aL bV aG p q aB s) [⟨[.bool found],some 4⟩,⟨[XR many],some 3⟩,⟨[Yb a breaks.length d],none⟩,⟨Mh ad y ag ae ah,none⟩,⟨[.map (some aM)],none⟩,⟨WP cB,none⟩,⟨WP cB,some 82⟩] [⟨bk,2,2,3,1,([.int .i64 aA,.int .i64 al.1]:Ye),_⟩] _:=b0
   have f1:At c1 bk 2 ([aA,al.1]:List Int):=⟨_,b8,f2,dc.rowCap (i:=0) rfl⟩
   obtain⟨iS,ex75,aj⟩:=Ao aj
   refine wl fun K hK=>?_
   refine wc [.c (Yb bk 2 2)] e3 b0 (Hc be b0.has ([aA,al.1]:List Int) f1 ex75) fun h7 gx ik dr bx aw=>?_
   replace bn:=bn.mono (XU br bx)
   obtain rfl:=dr
   refine⟨.one (.c (XR iS)),rfl,fun go (e4:Kn _ (Mq aI aN aL bV aG p q aB s) ((tI 75 iS)::(tS 74 bk 2 2)::(tI 73 al.1)::(tI 72 aA)::(tI 20 aB)::(Hi breaks a d bK l bL)) _)=>hK _ _ ?_⟩
   refine Rk 4 1 ((tI 7 iS)::(tI 20 aB)::(Hi breaks a d bK l bL)) e4 aw fun hr e5=>?_
   refine wf (XT (Aa (Rk 0 2 ((tB 77 found)::(tI 7 iS)::(tI 20 aB)::(Hi breaks a d bK l bL)) e5 aw fun dl c5=>?_)))
   rcases Y2 (found) with bq | bq
   ·
    rw [Ba bq] at aj
    have e6:Kn _ _ ((tB 77 true)::(tI 7 iS)::(tI 20 aB)::(Hi breaks a d bK l bL)) _:=(c5.setB 77 true (by rfl) bq).kp
    refine Rk 2 4 ((tB 81 (decide (iS≥many)))::(tI 7 iS)::(tI 20 aB)::(Hi breaks a d bK l bL)) e6 aw fun hs cb=>?_
    refine wf (wC (decide (iS≥many)) cb (fun b5=>?_) (fun b5=>?_))
    ·
     rw [b5,XW] at aj
     refine wp_exit ?_
     obtain rfl:=XZ aj
     exact XY bb ⟨a9,_,_,rfl,(cb.keep [7] (by rfl)).cut 5 (by kernel_rfl),(aw.cutRw 0).cutPl 5 (by kernel_rfl),XU ao (XU ap (XU cf (XU br bx))),bn⟩
    rw [b5,XV] at aj
    refine wp_skip (Aa (Rk 0 2 ((tI 20 (IntKind.i64.wrap (aB+1)))::(tI 7 iS)::(Hi breaks a d bK l bL)) cb aw fun ht e7=>?_))
    refine wf ?_
    exact XY be ⟨Y4 _,XY (IntKind.i64.wrap (aB+1)) ⟨iS,al.2,bb,a9,_,_,rfl,(e7.keep [20,19,18,7,0,2,3,4,5] (by rfl)).cut 5 (by kernel_rfl),(aw.cutRw 0).cutPl 5 (by kernel_rfl),XU ao (XU ap (XU cf (XU br bx))),bn,aj⟩⟩
   rw [Bb bq] at aj
   have e8:Kn _ _ ((tB 77 false)::(tI 7 iS)::(tI 20 aB)::(Hi breaks a d bK l bL)) _:=(c5.setB 77 false (by rfl) bq).kp
   refine Rk 2 4 ((tB 81 false)::(tI 7 iS)::(tI 20 aB)::(Hi breaks a d bK l bL)) e8 aw fun hu c6=>?_
   refine wf (wC false c6 (fun hb=>?_) (fun hb=>?_))
   ·
    cases hb
   refine wp_skip (Aa (Rk 0 2 ((tI 20 (IntKind.i64.wrap (aB+1)))::(tI 7 iS)::(Hi breaks a d bK l bL)) c6 aw fun hv e9=>?_))
   refine wf ?_
   exact XY be ⟨Y4 _,XY (IntKind.i64.wrap (aB+1)) ⟨iS,al.2,bb,a9,_,_,rfl,(e9.keep [20,19,18,7,0,2,3,4,5] (by rfl)).cut 5 (by kernel_rfl),(aw.cutRw 0).cutPl 5 (by kernel_rfl),XU ao (XU ap (XU cf (XU br bx))),bn,aj⟩⟩
  rw [b6,XV] at aj
  refine wp_exit ?_
  obtain rfl:=XZ aj
  exact XY bm ⟨bl,_,_,rfl,cc.kp,cj,ao,bw⟩
 rintro _ il ⟨bv,bu,co,bp,rfl,fa,ci,fn,dp⟩
 refine XT (Aa (Rk 0 2 [tI 7 bt.1] fa ci fun hw fb=>?_))
 refine wf (wp_ret ?_)
 obtain rfl:=XZ H
 exact Hw (.one (.c (XR bt.1))) fb ci (by kernel_rfl) ⟨bp,bv,bu,fn,rfl,dp,(ci.cutRw 0).cutPl 2 (by kernel_rfl)⟩
abbrev Gw (aI aN bE bF bV aY bG aL aG):=([(aI,0),(aN,0),(bE,0),(bF,0),(bV,0),(aY,0),(bG,0),(aL,0),(aG,0)]:AJ)
abbrev Kx (aL bV aG aI aN):=([.func (.func 28) #[] #[.pointer (some ⟨aL,0,none⟩),.pointer (some ⟨bV,0,none⟩),.pointer (some ⟨aG,0,none⟩),.pointer (some ⟨aI,0,none⟩),.pointer (some ⟨aN,0,none⟩)]]:List SC)
abbrev NI (aI aN bE bF bV aY bG aL aG s)(aA:Int)(u x):=([(aI,0),(aN,0),(bE,0),(bF,0),(bV,0),(aY,0),(bG,0),(aL,0),(aG,0),(s,0+Yc aA*1),(u,0+Yc aA*1),(x,0+Yc aA*1)]:AJ)
abbrev Ky (bV aY aI aN bE bF bG):=([.func (.func 32) #[] #[.pointer (some ⟨bV,0,none⟩),.pointer (some ⟨aY,0,none⟩),.pointer (some ⟨aI,0,none⟩),.pointer (some ⟨aN,0,none⟩),.pointer (some ⟨bE,0,none⟩),.pointer (some ⟨bF,0,none⟩),.pointer (some ⟨bG,0,none⟩)]]:List SC)
abbrev Qy (found:Bool)(many z)(best:List Int)(aa aO)(room:List Int)(aP d)(y:Am)(g f m aL bV aG aI aN aY bE bF bG p)(breaks:List A1)(q aM):=([⟨[.bool found],some 4⟩,⟨[XR many],some 3⟩,⟨[Yb z best.length aa],some 26⟩,⟨[Yb aO room.length aP],some 26⟩,⟨Mh d y g f m,none⟩,⟨Kx aL bV aG aI aN,none⟩,⟨Ky bV aY aI aN bE bF bG,none⟩,⟨[Yb p breaks.length q],none⟩,⟨[.map (some aM)],none⟩]:List C0)
abbrev FP (aA)(room:List Int)(bK)(l:List Int)(bL):=([tI 32 aA,tI 31 ((room.length:Nat):Int),tS 0 bK l.length bL,tP 6 3 0,tP 7 6 0]:TM)
abbrev SD (aA bK)(l:List Int)(bL bV aY aI aN bE bF bG)(room:List Int):=((tI 48 aA)::(tS 47 bK l.length bL)::(46,.one (.c (.func (.func 32) #[] #[.pointer (some ⟨bV,0,none⟩),.pointer (some ⟨aY,0,none⟩),.pointer (some ⟨aI,0,none⟩),.pointer (some ⟨aN,0,none⟩),.pointer (some ⟨bE,0,none⟩),.pointer (some ⟨bF,0,none⟩),.pointer (some ⟨bG,0,none⟩)])))::(tI 10 aA)::(FP aA room bK l bL):TM)
abbrev NJ (bK)(l:List Int)(bL):=([tS 0 bK l.length bL,tP 3 0 0,tP 4 1 0,tP 5 2 0]:TM)
theorem NV (n:Nat):∀ (F:Fr)(h:Ac)(w:World)(bV aY aI aN bE bF bG aL aG:Nat)(l:List Int)(bK:Yd)(bL:Nat)(fF:Ye)(gK:Ae h l fF)(found:Bool)(many:Int)(best:List Int)(z:Yd)(aa:Nat)(ab:At h z aa best)(room:List Int)(aO:Yd)(aP:Nat)(dN:Ye)(eO:Ae h room dN)(y:Am)(eL:B9 h bV y)(fR:As h aY [.func (.func 28) #[] #[.pointer (some ⟨aL,0,none⟩),.pointer (some ⟨bV,0,none⟩),.pointer (some ⟨aG,0,none⟩),.pointer (some ⟨aI,0,none⟩),.pointer (some ⟨aN,0,none⟩)]])(gE:As h bG [.func (.func 32) #[] #[.pointer (some ⟨bV,0,none⟩),.pointer (some ⟨aY,0,none⟩),.pointer (some ⟨aI,0,none⟩),.pointer (some ⟨aN,0,none⟩),.pointer (some ⟨bE,0,none⟩),.pointer (some ⟨bF,0,none⟩),.pointer (some ⟨bG,0,none⟩)]])(breaks:List A1)(dU:B9 h aL breaks)(known:List (Fy×Int))(aM:Nat)(cW:Array MapEntry)(cX:Nat)(cM:As h aG [.map (some aM)])(hX_known:F.X aM=some (.map cW cX))(hE_known:Cy h cW.toList cX known)(hm:Ai F h [(aI,0),(aN,0),(bE,0),(bF,0)] [⟨[.bool found],some 4⟩,⟨[XR many],some 3⟩,⟨[Yb z best.length aa],some 26⟩,⟨[Yb aO room.length aP],some 26⟩] [⟨bK,l.length,bL,3,1,fF,0⟩,⟨aO,room.length,aP,3,1,dN,0⟩] w)(r:Bool×Int×(List Int)×(List Int)×(List (Fy×Int)))(H:lane_Best_2 n l found many best room y breaks known=some r),
  Calls Tryz.prog 32 #[.slice bK l.length bL,.pointer (some ⟨bV,0,none⟩),.pointer (some ⟨aY,0,none⟩),.pointer (some ⟨aI,0,none⟩),.pointer (some ⟨aN,0,none⟩),.pointer (some ⟨bE,0,none⟩),.pointer (some ⟨bF,0,none⟩),.pointer (some ⟨bG,0,none⟩)] w (Jw fun v w'=>∃ (h':Ac)(bg:Yd)(bi:Nat)(bv:Ye)(bn:Array MapEntry)(bl:Nat),Ac.le h h'∧(v=.tuple #[])∧At h' bg bi r.2.2.1∧r.2.2.2.1.length=room.length∧Ae h' r.2.2.2.1 bv∧Cy h' bn.toList bl r.2.2.2.2∧Ai (Fr.put F aM (some (.map bn bl))) h' [(aI,0),(aN,0),(bE,0),(bF,0)] [⟨[.bool r.1],some 4⟩,⟨[.int .i64 r.2.1],some 3⟩,⟨[.slice bg r.2.2.1.length bi],some 26⟩,⟨[.slice aO room.length aP],some 26⟩] [⟨bK,l.length,bL,3,1,fF,0⟩,⟨aO,room.length,aP,3,1,bv,0⟩] w'):=by
 induction n using Nat.strongRecOn with
 | _ n ih =>
  intro F h w bV aY aI aN bE bF bG aL aG l bK bL fF gK found many best z aa ab room aO aP dN eO y eL fR gE breaks dU known aM cW cX cM hX_known hE_known hm r H
  obtain _ | n:=n
  ·
   rw [lane_Best_2] at H; cases H
  obtain⟨_,eD,kB⟩:=id eL
  obtain⟨_,_,rfl,⟨d,g,rfl,ao⟩,⟨_,_,rfl,⟨f,m,rfl,ap⟩,rfl⟩⟩:=eD
  obtain⟨_,iG,iH⟩:=id dU
  obtain⟨p,q,rfl,an⟩:=iG
  refine DZ (e:=(Gw aI aN bE bF bV aY bG aL aG)) 59 [.c (Yb bK l.length bL),.c (.ptr 4 0),.c (.ptr 5 0),.c (.ptr 0 0),.c (.ptr 1 0),.c (.ptr 2 0),.c (.ptr 3 0),.c (.ptr 6 0)] Tryz.func32 rfl rfl rfl rfl fun t hk=>?_
  replace hm:=hm.addPlc (o:=0) (cs:=[Yb d y.room.length g,Yb f y.lG.length m,XR y.broken]) (fun j c hj=>by rw [Y3]; exact kB j _ (Ak hj)) rfl (by kernel_rfl) (by kernel_rfl)
  replace hm:=hm.addPlc (o:=0) (cs:=[.func (.func 28) #[] #[.pointer (some ⟨aL,0,none⟩),.pointer (some ⟨bV,0,none⟩),.pointer (some ⟨aG,0,none⟩),.pointer (some ⟨aI,0,none⟩),.pointer (some ⟨aN,0,none⟩)]]) (fun j c hj=>by rw [Y3]; exact fR j _ (Ak hj)) rfl (by kernel_rfl) (by kernel_rfl)
  replace hm:=hm.addPlc (o:=0) (cs:=[.func (.func 32) #[] #[.pointer (some ⟨bV,0,none⟩),.pointer (some ⟨aY,0,none⟩),.pointer (some ⟨aI,0,none⟩),.pointer (some ⟨aN,0,none⟩),.pointer (some ⟨bE,0,none⟩),.pointer (some ⟨bF,0,none⟩),.pointer (some ⟨bG,0,none⟩)]]) (fun j c hj=>by rw [Y3]; exact gE j _ (Ak hj)) rfl (by kernel_rfl) (by kernel_rfl)
  replace hm:=hm.addPlc (o:=0) (cs:=[Yb p breaks.length q]) (fun j c hj=>by rw [Y3]; exact iH j _ (Ak hj)) rfl (by kernel_rfl) (by kernel_rfl)
  replace hm:=hm.addPlc (o:=0) (cs:=[.map (some aM)]) (fun j c hj=>by rw [Y3]; exact cM j _ (Ak hj)) rfl (by kernel_rfl) (by kernel_rfl)
  rw [← Fr.put_self hX_known] at hm
  replace hm:Ai _ _ [(aI,0),(aN,0),(bE,0),(bF,0),(bV,0),(aY,0),(bG,0),(aL,0),(aG,0)] [⟨[.bool found],some 4⟩,⟨[XR many],some 3⟩,⟨[Yb z best.length aa],some 26⟩,⟨[Yb aO room.length aP],some 26⟩,⟨[Yb d y.room.length g,Yb f y.lG.length m,XR y.broken],none⟩,⟨[.func (.func 28) #[] #[.pointer (some ⟨aL,0,none⟩),.pointer (some ⟨bV,0,none⟩),.pointer (some ⟨aG,0,none⟩),.pointer (some ⟨aI,0,none⟩),.pointer (some ⟨aN,0,none⟩)]],none⟩,⟨[.func (.func 32) #[] #[.pointer (some ⟨bV,0,none⟩),.pointer (some ⟨aY,0,none⟩),.pointer (some ⟨aI,0,none⟩),.pointer (some ⟨aN,0,none⟩),.pointer (some ⟨bE,0,none⟩),.pointer (some ⟨bF,0,none⟩),.pointer (some ⟨bG,0,none⟩)]],none⟩,⟨[Yb p breaks.length q],none⟩,⟨[.map (some aM)],none⟩] [⟨bK,l.length,bL,3,1,fF,0⟩,⟨aO,room.length,aP,3,1,dN,0⟩] _:=hm
  rw [lane_Best_2] at H
  refine XT (XT (Aa (Rk 0 6 [tB 16 (((l.length:Nat):Int) == ((y.lG.length:Nat):Int)),tS 0 bK l.length bL,tP 2 5 0,tP 3 0 0,tP 4 1 0,tP 5 2 0,tP 6 3 0,tP 7 6 0] hk hm fun jg cr=>?_)))
  refine wf (wC ((((l.length:Nat):Int) == ((y.lG.length:Nat):Int))) cr (fun cl=>?_) (fun cl=>?_))
  ·
   rw [cl,XW] at H
   refine XT (XT (Aa (Rk 0 2 ((tS 18 bK l.length bL)::(17,.one (.c (.func (.func 28) #[] #[.pointer (some ⟨aL,0,none⟩),.pointer (some ⟨bV,0,none⟩),.pointer (some ⟨aG,0,none⟩),.pointer (some ⟨aI,0,none⟩),.pointer (some ⟨aN,0,none⟩)])))::(NJ bK l bL)) cr hm fun jk ga=>?_)))
   have ew:=ab
   have e5:=gK
   have e6:=eO
   obtain⟨di,ai,h7,c3⟩:=hm.settle (i:=0) rfl
   replace eL:=eL.mono ai
   replace dU:=dU.mono ai
   replace cM:=cM.mono ai
   replace gK:=gK.mono ai
   replace hE_known:=hE_known.mono ai
   replace c3:Ai _ _ (Gw aI aN bE bF bV aY bG aL aG) (Qy found many z best aa aO room aP d y g f m aL bV aG aI aN aY bE bF bG p breaks q aM) [⟨bK,l.length,bL,3,1,fF,_⟩,⟨aO,room.length,aP,3,1,dN,0⟩] _:=c3
   have h1:At di bK bL l:=⟨_,gK,h7,hm.rowCap (i:=0) rfl⟩
   obtain⟨bZ,lB,H⟩:=Ao H
   obtain⟨iz,et,hb,h4⟩:=c3.lend1 aM (Fr.put_X _ _ _) [0,1] [] (by kernel_rfl) (by kernel_rfl) (by kernel_rfl) (by kernel_rfl)
   refine wl fun K hK=>?_
   refine ED (.func (.func 28) #[] #[.pointer (some ⟨aL,0,none⟩),.pointer (some ⟨bV,0,none⟩),.pointer (some ⟨aG,0,none⟩),.pointer (some ⟨aI,0,none⟩),.pointer (some ⟨aN,0,none⟩)]) [.c (Yb bK l.length bL)] _ ga rfl rfl (by decide) (by rfl) (by rfl) rfl ⟨28,_,_,rfl,fun _ _=>by kernel_rfl,Pt n l h1 found many breaks dU y eL known cM (et _ _ (Fr.put_X _ _ _)) hE_known hb lB⟩ fun jz eh er=>?_
   obtain⟨ev,aw,av,ac,rfl,em,hr⟩:=er
   have bs:=h4 _ _ _ _ [] ac rfl (Ys _) (by kernel_rfl) hr
   rw [Fr.put_put] at bs
   replace ab:=ab.mono (XU ai ac)
   replace gK:=gK.mono ac
   replace eO:=eO.mono (XU ai ac)
   replace bs:Ai _ _ [(aI,0),(aN,0),(bE,0),(bF,0),(bV,0),(aY,0),(bG,0),(aL,0),(aG,0)] [⟨[.bool found],some 4⟩,⟨[XR many],some 3⟩,⟨[Yb z best.length aa],some 26⟩,⟨[Yb aO room.length aP],some 26⟩,⟨[Yb d y.room.length g,Yb f y.lG.length m,XR y.broken],none⟩,⟨[.func (.func 28) #[] #[.pointer (some ⟨aL,0,none⟩),.pointer (some ⟨bV,0,none⟩),.pointer (some ⟨aG,0,none⟩),.pointer (some ⟨aI,0,none⟩),.pointer (some ⟨aN,0,none⟩)]],none⟩,⟨[.func (.func 32) #[] #[.pointer (some ⟨bV,0,none⟩),.pointer (some ⟨aY,0,none⟩),.pointer (some ⟨aI,0,none⟩),.pointer (some ⟨aN,0,none⟩),.pointer (some ⟨bE,0,none⟩),.pointer (some ⟨bF,0,none⟩),.pointer (some ⟨bG,0,none⟩)]],none⟩,⟨[Yb p breaks.length q],none⟩,⟨[.map (some aM)],none⟩] [⟨bK,l.length,bL,3,1,fF,_⟩,⟨aO,room.length,aP,3,1,dN,0⟩] _:=bs
   refine⟨.one (.c (XR bZ.1)),rfl,fun iu (gy:Kn _ (Gw aI aN bE bF bV aY bG aL aG) ((tI 19 bZ.1)::(tS 18 bK l.length bL)::(17,.one (.c (.func (.func 28) #[] #[.pointer (some ⟨aL,0,none⟩),.pointer (some ⟨bV,0,none⟩),.pointer (some ⟨aG,0,none⟩),.pointer (some ⟨aI,0,none⟩),.pointer (some ⟨aN,0,none⟩)])))::(NJ bK l bL)) _)=>hK _ _ ?_⟩
   refine Rk 3 1 ((tI 9 bZ.1)::(NJ bK l bL)) gy bs fun jt gz=>?_
   refine wf ?_
   have fx:=hm.rowFree (i:=0) rfl rfl
   have hv:=G3.more (e':=[]) (qs:=[]) (G3.same (pl':=(Qy found many z best aa aO room aP d y g f m aL bV aG aI aN aY bE bF bG p breaks q aM)) hm.noneIn ⟨fun h=>(by cases h),⟨fun h=>(by cases h),⟨fun h=>(by cases h),⟨fun h=>(by cases h),⟨fun _=>rfl,⟨fun _=>rfl,⟨fun _=>rfl,⟨fun _=>rfl,⟨fun _=>rfl,trivial⟩⟩⟩⟩⟩⟩⟩⟩⟩) (Y7 rfl) rfl rfl
   obtain⟨ck,aj,a7⟩:=bs.forget (i:=0) rfl hm.Fle (XU ai ac) fx hv
   have ab:=ew.mono aj
   have gK:=e5.mono aj
   have eO:=e6.mono aj
   have a0:Cy ck aw.toList av bZ.2:=Cy.flat (fun _ _ _ _ hx=>hx) em
   replace a7:Ai _ _ (Gw aI aN bE bF bV aY bG aL aG) (Qy found many z best aa aO room aP d y g f m aL bV aG aI aN aY bE bF bG p breaks q aM) [⟨bK,l.length,bL,3,1,fF,0⟩,⟨aO,room.length,aP,3,1,dN,0⟩] _:=a7
   refine XT ?_
   obtain⟨eb,b4,H⟩:=Ao H
   refine Ar (fun a' w'=>∃ (db:Array Value)(b6:Ac),a' = ⟨db,[]⟩∧Kn 59 (Gw aI aN bE bF bV aY bG aL aG) [tI 9 bZ.1,tS 0 bK l.length bL,tP 3 0 0,tP 4 1 0,tP 5 2 0,tB 26 eb] db∧Ai (Fr.put F aM (some (.map aw av))) b6 (Gw aI aN bE bF bV aY bG aL aG) (Qy found many z best aa aO room aP d y g f m aL bV aG aI aN aY bE bF bG p breaks q aM) [⟨bK,l.length,bL,3,1,fF,0⟩,⟨aO,room.length,aP,3,1,dN,0⟩] w'∧Ac.le ck b6) ?_ ?_
   ·
    refine Aa (Rk 0 3 ((tB 22 (!found))::(tI 9 bZ.1)::(NJ bK l bL)) gz a7 fun ef dn=>?_)
    rcases Y2 ((!found)) with bq | bq
    ·
     rw [bq,XW] at b4
     have g0:Kn _ _ ((tB 22 true)::(tI 9 bZ.1)::(NJ bK l bL)) _:=(dn.setB 22 true (by rfl) bq).kp
     refine Rk 3 4 ((tB 26 true)::(tI 9 bZ.1)::(NJ bK l bL)) g0 a7 fun ju g1=>?_
     refine wf ?_
     obtain rfl:=XZ b4
     exact XY _ ⟨_,rfl,g1.kp,a7,Ac.le_refl _⟩
    rw [bq,XV] at b4
    have g2:Kn _ _ ((tB 22 false)::(tI 9 bZ.1)::(NJ bK l bL)) _:=(dn.setB 22 false (by rfl) bq).kp
    refine Rk 3 4 ((tB 26 (decide (bZ.1<many)))::(tI 9 bZ.1)::(NJ bK l bL)) g2 a7 fun jv g3=>?_
    refine wf ?_
    obtain rfl:=XZ b4
    exact XY _ ⟨_,rfl,g3.kp,a7,Ac.le_refl _⟩
   rintro _ ix ⟨db,b6,rfl,cv,a8,ak⟩
   replace ab:=ab.mono ak
   replace a0:=a0.mono ak
   replace gK:=gK.mono ak
   replace eO:=eO.mono ak
   obtain⟨cf,ba,H⟩:=Ao H
   refine Ar (fun a' w'=>∃ (bx:Yd)(b2:Nat)(dc:Array Value)(bo:Ac),a' = ⟨dc,[]⟩∧Kn 59 (Gw aI aN bE bF bV aY bG aL aG) [] dc∧Ai (Fr.put F aM (some (.map aw av))) bo (Gw aI aN bE bF bV aY bG aL aG) [⟨[.bool cf.1],some 4⟩,⟨[XR cf.2.1],some 3⟩,⟨[Yb bx cf.2.2.length b2],some 26⟩,⟨[Yb aO room.length aP],some 26⟩,⟨Mh d y g f m,none⟩,⟨Kx aL bV aG aI aN,none⟩,⟨Ky bV aY aI aN bE bF bG,none⟩,⟨[Yb p breaks.length q],none⟩,⟨[.map (some aM)],none⟩] [⟨bK,l.length,bL,3,1,fF,0⟩,⟨aO,room.length,aP,3,1,dN,0⟩] w'∧Ac.le b6 bo∧At bo bx b2 cf.2.2) ?_ ?_
   ·
    refine wC (eb) cv (fun co=>?_) (fun co=>?_)
    ·
     rw [Ba co] at ba
     refine Aa (Rk 0 1 [tS 27 bK l.length bL,tI 9 bZ.1,tP 3 0 0,tP 4 1 0,tP 5 2 0] cv a8 fun jw g4=>?_)
     obtain⟨df,af,h5,b8⟩:=a8.settle (i:=0) rfl
     replace gK:=gK.mono af
     replace b8:Ai _ _ (Gw aI aN bE bF bV aY bG aL aG) (Qy found many z best aa aO room aP d y g f m aL bV aG aI aN aY bE bF bG p breaks q aM) [⟨bK,l.length,bL,3,1,fF,_⟩,⟨aO,room.length,aP,3,1,dN,0⟩] _:=b8
     have hw:At df bK bL l:=⟨_,gK,h5,a8.rowCap (i:=0) rfl⟩
     obtain⟨eK,lC,ba⟩:=Ao ba
     refine wl fun K hK=>?_
     refine ET [.c (Yb bK l.length bL)] _ g4 b8 rfl rfl (by decide) (by rfl) rfl (fun _ _=>by kernel_rfl) (Dy n b8.has l hw lC) fun jx eu iv je eo ag b9=>?_
     obtain⟨ad,ae,bu,rfl,rfl,fk⟩:=eo
     replace b9:Ai _ _ (Gw aI aN bE bF bV aY bG aL aG) (Qy found many z best aa aO room aP d y g f m aL bV aG aI aN aY bE bF bG p breaks q aM) [⟨bK,l.length,bL,3,1,fF,_⟩,⟨aO,room.length,aP,3,1,dN,0⟩,⟨ad,eK.length,ae,3,1,bu,0⟩] _:=b9
     refine⟨.one (.c (Yb ad eK.length ae)),rfl,fun il (fy:Kn _ (Gw aI aN bE bF bV aY bG aL aG) [tS 28 ad eK.length ae,tS 27 bK l.length bL,tI 9 bZ.1,tP 3 0 0,tP 4 1 0,tP 5 2 0] _)=>hK _ _ ?_⟩
     refine Rk 2 1 [tI 29 bZ.1,tS 28 ad eK.length ae,tP 3 0 0,tP 4 1 0,tP 5 2 0] fy b9 fun im fz=>?_
     refine wl fun K hK=>?_
     refine DT 2 0 (.c (Yb ad eK.length ae)) [Yb ad eK.length ae] fz b9 fun j0 f0 hd=>hK _ _ ?_
     refine wl fun K hK=>?_
     refine DT 1 0 (.c (XR bZ.1)) [XR bZ.1] f0 hd fun j1 f1 he=>hK _ _ ?_
     refine wl fun K hK=>?_
     refine DT 0 0 (.c (.bool true)) [.bool true] f1 he fun eg f2 hf=>hK _ _ ?_
     have f3:Kn _ _ [] _:=f2.kp
     refine wf ?_
     have fw:=a8.rowFree (i:=0) rfl rfl
     have hu:=G3.more (e':=[]) (qs:=[]) (G3.same (pl':=[⟨[.bool true],some 4⟩,⟨[XR bZ.1],some 3⟩,⟨[Yb ad eK.length ae],some 26⟩,⟨[Yb aO room.length aP],some 26⟩,⟨Mh d y g f m,none⟩,⟨Kx aL bV aG aI aN,none⟩,⟨Ky bV aY aI aN bE bF bG,none⟩,⟨[Yb p breaks.length q],none⟩,⟨[.map (some aM)],none⟩]) a8.noneIn ⟨fun h=>(by cases h),⟨fun h=>(by cases h),⟨fun h=>(by cases h),⟨fun h=>(by cases h),⟨fun _=>rfl,⟨fun _=>rfl,⟨fun _=>rfl,⟨fun _=>rfl,⟨fun _=>rfl,trivial⟩⟩⟩⟩⟩⟩⟩⟩⟩) (Y7 rfl) rfl rfl
     obtain⟨dg,ah,ca⟩:=hf.forget (i:=0) rfl a8.Fle (XU af ag) fw hu
     have cp:Ae dg eK bu:=Ae.atInt fk
     replace ca:Ai _ _ (Gw aI aN bE bF bV aY bG aL aG) [⟨[.bool true],some 4⟩,⟨[XR bZ.1],some 3⟩,⟨[Yb ad eK.length ae],some 26⟩,⟨[Yb aO room.length aP],some 26⟩,⟨Mh d y g f m,none⟩,⟨Kx aL bV aG aI aN,none⟩,⟨Ky bV aY aI aN bE bF bG,none⟩,⟨[Yb p breaks.length q],none⟩,⟨[.map (some aM)],none⟩] [⟨bK,l.length,bL,3,1,fF,0⟩,⟨aO,room.length,aP,3,1,dN,0⟩,⟨ad,eK.length,ae,3,1,bu,0⟩] _:=ca
     obtain⟨dh,dp,h6,c0⟩:=ca.settle (i:=2) rfl
     replace cp:=cp.mono dp
     replace c0:Ai _ _ (Gw aI aN bE bF bV aY bG aL aG) [⟨[.bool true],some 4⟩,⟨[XR bZ.1],some 3⟩,⟨[Yb ad eK.length ae],some 26⟩,⟨[Yb aO room.length aP],some 26⟩,⟨Mh d y g f m,none⟩,⟨Kx aL bV aG aI aN,none⟩,⟨Ky bV aY aI aN bE bF bG,none⟩,⟨[Yb p breaks.length q],none⟩,⟨[.map (some aM)],none⟩] [⟨bK,l.length,bL,3,1,fF,0⟩,⟨aO,room.length,aP,3,1,dN,0⟩,⟨ad,eK.length,ae,3,1,bu,_⟩] _:=c0
     have hy:At dh ad ae eK:=⟨_,cp,h6,ca.rowCap (i:=2) rfl⟩
     obtain rfl:=XZ ba
     exact XY ad ⟨ae,_,_,rfl,f3.kp,c0.cutRw 2,XU ah dp,hy⟩
    rw [Bb co] at ba
    refine wp_skip ?_
    obtain rfl:=XZ ba
    exact XY z ⟨aa,_,_,rfl,cv.kp,a8,Ac.le_refl _,ab⟩
   rintro _ j2 ⟨bx,b2,dc,bo,rfl,f4,dq,cy,h2⟩
   replace a0:=a0.mono cy
   replace eO:=eO.mono cy
   refine wp_ret ?_
   obtain rfl:=XZ H
   exact Hw (.tup []) f4 dq (by kernel_rfl) ⟨bo,bx,b2,dN,aw,av,XU aj (XU ak cy),rfl,h2,rfl,eO,a0,(dq.cutRw 2).cutPl 4 (by kernel_rfl)⟩
  rw [cl,XV] at H
  refine wp_skip (XT (Aa (Rk 0 3 [tI 32 0,tI 31 ((room.length:Nat):Int),tS 0 bK l.length bL,tP 6 3 0,tP 7 6 0] cr hm fun jf f5=>?_)))
  refine wf ?_
  obtain⟨a5,de,H⟩:=Ao H
  refine Ar (fun a' w'=>∃ (cg:Ye)(bw:Yd)(b1:Nat)(b5:Array MapEntry)(b3:Nat)(c8:Array Value)(a6:Ac),a' = ⟨c8,[]⟩∧Kn 59 (Gw aI aN bE bF bV aY bG aL aG) [] c8∧Ai (Fr.put F aM (some (.map b5 b3))) a6 (Gw aI aN bE bF bV aY bG aL aG) [⟨[.bool a5.2.1],some 4⟩,⟨[XR a5.2.2.1],some 3⟩,⟨[Yb bw a5.2.2.2.1.length b1],some 26⟩,⟨[Yb aO room.length aP],some 26⟩,⟨Mh d y g f m,none⟩,⟨Kx aL bV aG aI aN,none⟩,⟨Ky bV aY aI aN bE bF bG,none⟩,⟨[Yb p breaks.length q],none⟩,⟨[.map (some aM)],none⟩] [⟨bK,l.length,bL,3,1,fF,0⟩,⟨aO,room.length,aP,3,1,cg,0⟩] w'∧Ac.le h a6∧Ae a6 a5.1 cg∧a5.1.length=room.length∧At a6 bw b1 a5.2.2.2.1∧Cy a6 b5.toList b3 a5.2.2.2.2) ?_ ?_
  ·
   refine wp_block ?_
   refine Av (fun ea a' w'=>∃ (aB:List Int)(aA:Int)(aC:Bool)(cA:Int)(ge:(List Int))(gY:List (Fy×Int))(aq:Ye)(a3:Yd)(a4:Nat)(bb:Array MapEntry)(a9:Nat)(c9:Array Value)(al:Ac),a' = ⟨c9,[]⟩∧Kn 59 (Gw aI aN bE bF bV aY bG aL aG) (FP aA room bK l bL) c9∧Ai (Fr.put F aM (some (.map bb a9))) al (Gw aI aN bE bF bV aY bG aL aG) [⟨[.bool aC],some 4⟩,⟨[XR cA],some 3⟩,⟨[Yb a3 ge.length a4],some 26⟩,⟨[Yb aO room.length aP],some 26⟩,⟨Mh d y g f m,none⟩,⟨Kx aL bV aG aI aN,none⟩,⟨Ky bV aY aI aN bE bF bG,none⟩,⟨[Yb p breaks.length q],none⟩,⟨[.map (some aM)],none⟩] [⟨bK,l.length,bL,3,1,fF,0⟩,⟨aO,room.length,aP,3,1,aq,0⟩] w'∧Ac.le h al∧Ae al aB aq∧aB.length=room.length∧At al a3 a4 ge∧Cy al bb.toList a9 gY∧ea≤n∧C6 ea l room y breaks aB aA aC cA ge gY=some a5) n ?_ ?_
   ·
    exact XY room ⟨0,found,many,best,known,dN,z,aa,cW,cX,_,_,rfl,f5.kp,hm,Ac.le_refl _,eO,rfl,ab,hE_known,Ys _,de⟩
   rintro bt _ j3 ⟨aB,aA,aC,cA,ge,gY,aq,a3,a4,bb,a9,c9,al,rfl,f6,bf,am,ax,be,c5,cj,i9,a⟩
   clear de
   obtain _ | bt:=bt
   ·
    rw [C6] at a; cases a
   rw [C6] at a
   replace eL:=eL.mono am
   replace fR:=fR.mono am
   replace gE:=gE.mono am
   replace dU:=dU.mono am
   replace cM:=cM.mono am
   replace gK:=gK.mono am
   refine XT (Aa (Rk 0 1 ((tB 33 (decide (aA<((room.length:Nat):Int))))::(FP aA room bK l bL)) f6 bf fun jh ct=>?_))
   refine wf (XT (wC (decide (aA<((room.length:Nat):Int))) ct (fun cm=>?_) (fun cm=>?_)))
   ·
    rw [cm,XW] at a
    refine wp_skip (XT (wp_block (XT (Aa (Rk 0 2 ((tI 10 aA)::(FP aA room bK l bL)) ct bf fun ji f7=>?_)))))
    refine wf (XT (Aa (Rk 0 2 ((tI 36 aA)::(tS 35 aO room.length aP)::(tI 10 aA)::(FP aA room bK l bL)) f7 bf fun jj f8=>?_)))
    obtain⟨cK,iB,a⟩:=Ao a
    obtain⟨dt,dy,ie⟩:=Aj iB
    have g6:=AG dt dy
    obtain⟨i0,h8,fm⟩:=AM (sz:=1) rfl ax ie
    obtain rfl:=h8
    obtain⟨s,bp⟩:=AP bf (i:=1) rfl (b0:=0+Yc aA*1) (Y5 (Y6 (by decide)) (A3 (sz:=1) rfl ax g6))
    have a1:=bf.addPlc (b:=s) (o:=0+Yc aA*1) (cs:=[]) (fun j c hj=>by simp at hj) rfl (by kernel_rfl) (by kernel_rfl)
    have b7:∀ (e:AJ) k c,([XR cK]:List SC)[k]? = some c→(aq)[0+Yc aA*1+k]? = some (c.den e):=fun e k c hk=>fm k _ (Ak hk)
    have dz:=dy
    rw [be] at dz
    refine A9 2 (aA) rfl rfl (rfl) rfl (by decide) f8 (by rfl) (by rfl) (by rfl) bp (by rfl) dt dz (by kernel_rfl) fun io (f9:Kn _ [(aI,0),(aN,0),(bE,0),(bF,0),(bV,0),(aY,0),(bG,0),(aL,0),(aG,0),(s,0+Yc aA*1)] ((tP 37 9 0)::(tI 36 aA)::(tS 35 aO room.length aP)::(tI 10 aA)::(FP aA room bK l bL)) _)=>?_
    refine F4 3 2 [39,10,32,31,0,6,7] ((tB 39 (decide (cK>0)))::(tI 10 aA)::(FP aA room bK l bL)) f9 (Ay.peek a1.plOk a1 1 9 rfl rfl bp [XR cK] (b7 _)) (by kernel_rfl) fun jl cu=>?_
    refine wf (wC (decide (cK>0)) cu (fun cn=>?_) (fun cn=>?_))
    ·
     rw [cn,XW] at a
     refine XT (Aa (F4 0 2 [41,40,10,32,31,0,6,7] ((tI 41 aA)::(tS 40 aO room.length aP)::(tI 10 aA)::(FP aA room bK l bL)) cu (Ay.peek a1.plOk a1 1 9 rfl rfl bp [XR cK] (b7 _)) (by kernel_rfl) fun jm gb=>?_))
     obtain⟨dI,iC,a⟩:=Ao a
     obtain⟨du,d0,ig⟩:=Aj iC
     have g7:=AG du d0
     obtain⟨i1,h9,fn⟩:=AM (sz:=1) rfl ax ig
     obtain rfl:=h9
     obtain⟨u,dj⟩:=AP a1 (i:=1) rfl (b0:=0+Yc aA*1) (Y5 (Y6 (by decide)) (A3 (sz:=1) rfl ax g7))
     have br:=a1.addPlc (b:=u) (o:=0+Yc aA*1) (cs:=[]) (fun j c hj=>by simp at hj) rfl (by kernel_rfl) (by kernel_rfl)
     have fo:∀ (e:AJ) k c,([XR dI]:List SC)[k]? = some c→(aq)[0+Yc aA*1+k]? = some (c.den e):=fun e k c hk=>fn k _ (Ak hk)
     have d1:=d0
     rw [be] at d1
     refine A9 2 (aA) rfl rfl (rfl) rfl (by decide) gb (by rfl) (by rfl) (by rfl) dj (by rfl) du d1 (by kernel_rfl) fun ip (gc:Kn _ [(aI,0),(aN,0),(bE,0),(bF,0),(bV,0),(aY,0),(bG,0),(aL,0),(aG,0),(s,0+Yc aA*1),(u,0+Yc aA*1)] ((tP 42 10 0)::(tI 41 aA)::(tS 40 aO room.length aP)::(tI 10 aA)::(FP aA room bK l bL)) _)=>?_
     refine F4 3 2 [44,41,40,10,32,31,0,6,7] ((tI 44 (IntKind.i64.wrap (dI-1)))::(tI 41 aA)::(tS 40 aO room.length aP)::(tI 10 aA)::(FP aA room bK l bL)) gc (Ay.peek (Ay.peek br.plOk br 1 9 rfl rfl bp [XR cK] (b7 _)) br 1 10 rfl rfl dj [XR dI] (fo _)) (by kernel_rfl) fun jn gd=>?_
     obtain⟨iI,kV,a⟩:=Ao a
     obtain⟨dv,d2,ii⟩:=Aj kV
     have cw:=AG dv d2
     obtain⟨i2,ia,fp⟩:=AM (sz:=1) rfl ax ii
     obtain rfl:=ia
     obtain⟨x,dk⟩:=AP br (i:=1) rfl (b0:=0+Yc aA*1) (Y5 (Y6 (by decide)) (A3 (sz:=1) rfl ax cw))
     have hg:=br.addPlc (b:=x) (o:=0+Yc aA*1) (cs:=[]) (fun j c hj=>by simp at hj) rfl (by kernel_rfl) (by kernel_rfl)
     have i5:∀ (e:AJ) k c,([XR iI]:List SC)[k]? = some c→(aq)[0+Yc aA*1+k]? = some (c.den e):=fun e k c hk=>fp k _ (Ak hk)
     have d3:=d2
     rw [be] at d3
     refine A9 5 (aA) rfl rfl (rfl) rfl (by decide) gd (by rfl) (by rfl) (by rfl) dk (by rfl) dv d3 (by kernel_rfl) fun ec (gf:Kn _ (NI aI aN bE bF bV aY bG aL aG s aA u x) ((tP 45 11 0)::(tI 44 (IntKind.i64.wrap (dI-1)))::(tI 41 aA)::(tS 40 aO room.length aP)::(tI 10 aA)::(FP aA room bK l bL)) _)=>?_
     obtain⟨a2,ei,a⟩:=Ao a
     obtain⟨ja,jc,d8⟩:=Cl ei
     refine wl fun K hK=>?_
     refine B4 1 11 0 (0+Yc aA*1) (.c (XR (IntKind.i64.wrap (dI-1)))) gf hg rfl rfl (by rfl) (by rfl) rfl rfl dk rfl (by kernel_rfl) (A3 (sz:=1) rfl ax cw) fun j4 gg cb=>?_
     have fq:Ae al a2 (aq.take (0+Yc aA*1+0)++([.int .i64 (IntKind.i64.wrap (dI-1))]:Ye)++aq.drop (0+Yc aA*1+0+1)):=by rw [d8]; exact Df (sz:=1) rfl ax cw (Ad:rep al (IntKind.i64.wrap (dI-1):Int) _)
     have ce:a2.length=room.length:=by rw [d8]; simp [be]
     refine hK _ _ ?_
     have gh:Kn _ _ ((tI 10 aA)::(FP aA room bK l bL)) _:=gg.kp
     refine wf (XT (Au (by kernel_rfl) ?_))
     replace cb:=cb.drew
     refine Ax [] (NI aI aN bE bF bV aY bG aL aG s aA u x) [⟨[.bool aC],some 4⟩,⟨[XR cA],some 3⟩,⟨[Yb a3 ge.length a4],some 26⟩,⟨[Yb aO room.length aP],some 26⟩,⟨Mh d y g f m,none⟩,⟨Kx aL bV aG aI aN,none⟩,⟨Ky bV aY aI aN bE bF bG,none⟩,⟨[Yb p breaks.length q],none⟩,⟨[.map (some aM)],none⟩,⟨[],none⟩,⟨[],none⟩,⟨[],none⟩] ?_
     refine Dr [0,1,2] [2,1,0] (SD aA bK l bL bV aY aI aN bE bF bG room) gh cb fun jo gi=>?_
     refine Dl 3 fun K hK=>?_
     refine wS 3 1 [XR aA] gi cb fun au iq j5 (gj:Kn _ (NI aI aN bE bF bV aY bG aL aG s aA u x) ((tS 49 au 1 1)::(SD aA bK l bL bV aY aI aN bE bF bG room)) _) c1=>?_
     have cq:Ae al ([aA]:List Int) ([.int .i64 aA]:Ye):=⟨_,_,rfl,(Ad:rep al (aA:Int) _),rfl⟩
     refine hK _ _ c1.plOk ?_
     obtain⟨jM,kY,a⟩:=Ao a
     obtain⟨c6,g8⟩:=Bj kY
     refine Dl 4 fun K hK=>?_
     refine T1 0 8 1 _ (jM.length) _ ([.int .i64 aA]:Ye) gj c1 rfl rfl (by decide) rfl rfl (by rfl) (by kernel_rfl) (by rfl) (by rfl) (Ae.len cq) (c1.rowCell (i:=2) rfl) cq.one (by rw [c6]; simp <;> omega) (by rw [c6]; exact g8) (by decide) fun ay az c7 ed iw en (gk:Kn _ [(aI,0),(aN,0),(bE,0),(bF,0),(bV,0),(aY,0),(bG,0),(aL,0),(aG,0),(s,0+(aA:Int).toNat*1),(u,0+(aA:Int).toNat*1),(x,0+(aA:Int).toNat*1)] [(50,.one (.c (Yb ay jM.length az))),(49,.one (.c (Yb au 1 1))),(48,.one (.c (XR aA))),(47,.one (.c (Yb bK l.length bL))),(46,.one (.c (.func (.func 32) #[] #[.pointer (some ⟨bV,0,none⟩),.pointer (some ⟨aY,0,none⟩),.pointer (some ⟨aI,0,none⟩),.pointer (some ⟨aN,0,none⟩),.pointer (some ⟨bE,0,none⟩),.pointer (some ⟨bF,0,none⟩),.pointer (some ⟨bG,0,none⟩)]))),(10,.one (.c (XR aA))),(32,.one (.c (XR aA))),(31,.one (.c (XR ((room.length:Nat):Int)))),(0,.one (.c (Yb bK l.length bL))),(6,.one (.c (.ptr 3 0))),(7,.one (.c (.ptr 6 0)))] _) dr=>?_
     have fr:Ae al jM (fF++([.int .i64 aA]:Ye)):=by rw [c6]; exact Ae.append gK cq
     refine hK _ _ dr.plOk ?_
     have gl:Kn _ (NI aI aN bE bF bV aY bG aL aG s aA u x) ((tS 50 ay jM.length az)::(tS 49 au 1 1)::(SD aA bK l bL bV aY aI aN bE bF bG room)) _:=gk
     have hh:Ai (Fr.put F aM (some (.map bb a9))) al [(aI,0),(aN,0),(bE,0),(bF,0),(bV,0),(aY,0),(bG,0),(aL,0),(aG,0),(s,0+Yc aA*1),(u,0+Yc aA*1),(x,0+Yc aA*1)] [⟨[.bool aC],some 4⟩,⟨[XR cA],some 3⟩,⟨[Yb a3 ge.length a4],some 26⟩,⟨[Yb aO a2.length aP],some 26⟩,⟨[Yb d y.room.length g,Yb f y.lG.length m,XR y.broken],none⟩,⟨[.func (.func 28) #[] #[.pointer (some ⟨aL,0,none⟩),.pointer (some ⟨bV,0,none⟩),.pointer (some ⟨aG,0,none⟩),.pointer (some ⟨aI,0,none⟩),.pointer (some ⟨aN,0,none⟩)]],none⟩,⟨[.func (.func 32) #[] #[.pointer (some ⟨bV,0,none⟩),.pointer (some ⟨aY,0,none⟩),.pointer (some ⟨aI,0,none⟩),.pointer (some ⟨aN,0,none⟩),.pointer (some ⟨bE,0,none⟩),.pointer (some ⟨bF,0,none⟩),.pointer (some ⟨bG,0,none⟩)]],none⟩,⟨[Yb p breaks.length q],none⟩,⟨[.map (some aM)],none⟩,⟨[],none⟩,⟨[],none⟩,⟨[],none⟩] [⟨ay,jM.length,az,3,1,fF++([.int .i64 aA]:Ye),0⟩,⟨aO,a2.length,aP,3,1,aq.take (0+Yc aA*1+0)++([.int .i64 (IntKind.i64.wrap (dI-1))]:Ye)++aq.drop (0+Yc aA*1+0+1),0⟩,⟨au,1,1,3,1,([.int .i64 aA]:Ye),0⟩,c7] iw:=by rw [ce]; exact dr
     refine BZ (e':=[(aI,0),(aN,0),(bE,0),(bF,0),(bV,0),(aY,0),(bG,0),(aL,0),(aG,0),(s,0+Yc aA*1),(u,0+Yc aA*1),(x,0+Yc aA*1)]) (pl':=[⟨[.bool aC],some 4⟩,⟨[XR cA],some 3⟩,⟨[Yb a3 ge.length a4],some 26⟩,⟨[Yb aO a2.length aP],some 26⟩,⟨[Yb d y.room.length g,Yb f y.lG.length m,XR y.broken],none⟩,⟨[.func (.func 28) #[] #[.pointer (some ⟨aL,0,none⟩),.pointer (some ⟨bV,0,none⟩),.pointer (some ⟨aG,0,none⟩),.pointer (some ⟨aI,0,none⟩),.pointer (some ⟨aN,0,none⟩)]],none⟩,⟨[.func (.func 32) #[] #[.pointer (some ⟨bV,0,none⟩),.pointer (some ⟨aY,0,none⟩),.pointer (some ⟨aI,0,none⟩),.pointer (some ⟨aN,0,none⟩),.pointer (some ⟨bE,0,none⟩),.pointer (some ⟨bF,0,none⟩),.pointer (some ⟨bG,0,none⟩)]],none⟩,⟨[Yb p breaks.length q],none⟩,⟨[.map (some aM)],none⟩,⟨[],none⟩,⟨[],none⟩,⟨[],none⟩]) (fun _ hp=>Ay.same (by rw [ce] at hp; exact hp) rfl) ?_
     obtain⟨cG,hG,a⟩:=Ao a
     obtain⟨iy,es,g9,h3⟩:=hh.lend1 aM (Fr.put_X _ _ _) [0,1,2,3] [0,1] (by kernel_rfl) (by kernel_rfl) (by kernel_rfl) (by kernel_rfl)
     refine CU 5 rfl (by kernel_rfl) (by decide) (rfl) (by kernel_rfl) fun K hK=>?_
     refine ED (.func (.func 32) #[] #[.pointer (some ⟨bV,0,none⟩),.pointer (some ⟨aY,0,none⟩),.pointer (some ⟨aI,0,none⟩),.pointer (some ⟨aN,0,none⟩),.pointer (some ⟨bE,0,none⟩),.pointer (some ⟨bF,0,none⟩),.pointer (some ⟨bG,0,none⟩)]) [.c (Yb ay jM.length az)] _ gl rfl rfl (by decide) (by rfl) (by rfl) rfl ⟨32,_,_,rfl,fun _ _=>by kernel_rfl,ih bt (by omega) _ _ _ _ _ _ _ _ _ _ _ _ jM _ _ _ fr aC cA ge _ _ c5 a2 _ _ _ fq y eL fR gE breaks dU gY _ _ _ cM (es _ _ (Fr.put_X _ _ _)) cj g9 _ hG⟩ fun jy ch ep=>?_
     obtain⟨bc,bh,bj,ar,bm,bk,cz,rfl,h0,hs,bd,el,hi⟩:=ep
     have cc:=h3 _ _ _ _ [⟨ay,jM.length,az,3,1,fF++([.int .i64 aA]:Ye),0⟩,⟨aO,a2.length,aP,3,1,ar,0⟩] cz rfl (Y7 rfl) (by kernel_rfl) hi
     rw [Fr.put_put] at cc
     replace cc:Ai _ _ [(aI,0),(aN,0),(bE,0),(bF,0),(bV,0),(aY,0),(bG,0),(aL,0),(aG,0),(s,0+Yc aA*1),(u,0+Yc aA*1),(x,0+Yc aA*1)] [⟨[.bool cG.1],some 4⟩,⟨[XR cG.2.1],some 3⟩,⟨[Yb bh cG.2.2.1.length bj],some 26⟩,⟨[Yb aO a2.length aP],some 26⟩,⟨[Yb d y.room.length g,Yb f y.lG.length m,XR y.broken],none⟩,⟨[.func (.func 28) #[] #[.pointer (some ⟨aL,0,none⟩),.pointer (some ⟨bV,0,none⟩),.pointer (some ⟨aG,0,none⟩),.pointer (some ⟨aI,0,none⟩),.pointer (some ⟨aN,0,none⟩)]],none⟩,⟨[.func (.func 32) #[] #[.pointer (some ⟨bV,0,none⟩),.pointer (some ⟨aY,0,none⟩),.pointer (some ⟨aI,0,none⟩),.pointer (some ⟨aN,0,none⟩),.pointer (some ⟨bE,0,none⟩),.pointer (some ⟨bF,0,none⟩),.pointer (some ⟨bG,0,none⟩)]],none⟩,⟨[Yb p breaks.length q],none⟩,⟨[.map (some aM)],none⟩,⟨[],none⟩,⟨[],none⟩,⟨[],none⟩] [⟨ay,jM.length,az,3,1,fF++([.int .i64 aA]:Ye),0⟩,⟨aO,a2.length,aP,3,1,ar,0⟩,⟨au,1,1,3,1,([.int .i64 aA]:Ye),0⟩,c7] _:=cc
     refine⟨.tup [],rfl,fun da (gm:Kn _ (NI aI aN bE bF bV aY bG aL aG s aA u x) ((51,.tup [])::(tS 50 ay jM.length az)::(tS 49 au 1 1)::(SD aA bK l bL bV aY aI aN bE bF bG room)) _)=>hK _ _ ?_⟩
     have gn:Kn _ (NI aI aN bE bF bV aY bG aL aG s aA u x) ((51,.tup [])::(tS 50 ay jM.length az)::(tS 49 au 1 1)::(SD aA bK l bL bV aY aI aN bE bF bG room)) _:=gm
     have hl:Ai (Fr.put F aM (some (.map bm bk))) bc [(aI,0),(aN,0),(bE,0),(bF,0),(bV,0),(aY,0),(bG,0),(aL,0),(aG,0),(s,0+Yc aA*1),(u,0+Yc aA*1),(x,0+Yc aA*1)] [⟨[.bool cG.1],some 4⟩,⟨[XR cG.2.1],some 3⟩,⟨[Yb bh cG.2.2.1.length bj],some 26⟩,⟨[Yb aO room.length aP],some 26⟩,⟨[Yb d y.room.length g,Yb f y.lG.length m,XR y.broken],none⟩,⟨[.func (.func 28) #[] #[.pointer (some ⟨aL,0,none⟩),.pointer (some ⟨bV,0,none⟩),.pointer (some ⟨aG,0,none⟩),.pointer (some ⟨aI,0,none⟩),.pointer (some ⟨aN,0,none⟩)]],none⟩,⟨[.func (.func 32) #[] #[.pointer (some ⟨bV,0,none⟩),.pointer (some ⟨aY,0,none⟩),.pointer (some ⟨aI,0,none⟩),.pointer (some ⟨aN,0,none⟩),.pointer (some ⟨bE,0,none⟩),.pointer (some ⟨bF,0,none⟩),.pointer (some ⟨bG,0,none⟩)]],none⟩,⟨[Yb p breaks.length q],none⟩,⟨[.map (some aM)],none⟩,⟨[],none⟩,⟨[],none⟩,⟨[],none⟩] [⟨ay,jM.length,az,3,1,fF++([.int .i64 aA]:Ye),0⟩,⟨aO,room.length,aP,3,1,ar,0⟩,⟨au,1,1,3,1,([.int .i64 aA]:Ye),0⟩,c7] ch:=by rw [← ce]; exact cc
     have c4:=hs.trans ce
     have go:Kn _ _ ((tI 10 aA)::(FP aA room bK l bL)) _:=gn.kp
     refine Iv (by kernel_rfl) ?_
     have hn:Ai _ _ (NI aI aN bE bF bV aY bG aL aG s aA u x) [⟨[.bool cG.1],some 4⟩,⟨[XR cG.2.1],some 3⟩,⟨[Yb bh cG.2.2.1.length bj],some 26⟩,⟨[Yb aO room.length aP],some 26⟩,⟨Mh d y g f m,none⟩,⟨Kx aL bV aG aI aN,none⟩,⟨Ky bV aY aI aN bE bF bG,none⟩,⟨[Yb p breaks.length q],none⟩,⟨[.map (some aM)],none⟩,⟨[],none⟩,⟨[],none⟩,⟨[],none⟩] [⟨bK,l.length,bL,3,1,fF,0⟩,⟨aO,room.length,aP,3,1,ar,0⟩,⟨au,1,1,3,1,([.int .i64 aA]:Ye),0⟩,⟨none,0,0,3,1,[],0⟩] _:=Ai.unkeep (i:=0) (k:=3) hl rfl rfl (by decide) en rfl rfl ⟨_,rfl⟩
     have c2:Ai _ _ (NI aI aN bE bF bV aY bG aL aG s aA u x) [⟨[.bool cG.1],some 4⟩,⟨[XR cG.2.1],some 3⟩,⟨[Yb bh cG.2.2.1.length bj],some 26⟩,⟨[Yb aO room.length aP],some 26⟩,⟨Mh d y g f m,none⟩,⟨Kx aL bV aG aI aN,none⟩,⟨Ky bV aY aI aN bE bF bG,none⟩,⟨[Yb p breaks.length q],none⟩,⟨[.map (some aM)],none⟩,⟨[],none⟩,⟨[],none⟩,⟨[],none⟩] [⟨bK,l.length,bL,3,1,fF,0⟩,⟨aO,room.length,aP,3,1,ar,0⟩,⟨au,1,1,3,1,([.int .i64 aA]:Ye),0⟩] _:=hn.cutRw 3
     refine Aa (Rk 0 2 ((tI 53 aA)::(tS 52 aO room.length aP)::(FP aA room bK l bL)) go c2 fun jp gp=>?_)
     obtain⟨x54,ex54,a⟩:=Ao a
     obtain⟨dw,d4,ij⟩:=Aj ex54
     have ha:=AG dw d4
     obtain⟨i3,ib,fs⟩:=AM (sz:=1) rfl bd ij
     obtain rfl:=ib
     obtain⟨bz,dl⟩:=AP c2 (i:=1) rfl (b0:=0+Yc aA*1) (Y5 (Y6 (by decide)) (A3 (sz:=1) rfl bd ha))
     have cd:=c2.addPlc (b:=bz) (o:=0+Yc aA*1) (cs:=[]) (fun j c hj=>by simp at hj) rfl (by kernel_rfl) (by kernel_rfl)
     have ft:∀ (e:AJ) k c,([XR x54]:List SC)[k]? = some c→(ar)[0+Yc aA*1+k]? = some (c.den e):=fun e k c hk=>fs k _ (Ak hk)
     have d5:=d4
     rw [c4] at d5
     refine A9 2 (aA) rfl rfl (rfl) rfl (by decide) gp (by rfl) (by rfl) (by rfl) dl (by rfl) dw d5 (by kernel_rfl) fun ir (gq:Kn _ [(aI,0),(aN,0),(bE,0),(bF,0),(bV,0),(aY,0),(bG,0),(aL,0),(aG,0),(s,0+Yc aA*1),(u,0+Yc aA*1),(x,0+Yc aA*1),(bz,0+Yc aA*1)] ((tP 54 12 0)::(tI 53 aA)::(tS 52 aO room.length aP)::(FP aA room bK l bL)) _)=>?_
     refine F4 3 2 [56,53,52,32,31,0,6,7] ((tI 56 (IntKind.i64.wrap (x54+1)))::(tI 53 aA)::(tS 52 aO room.length aP)::(FP aA room bK l bL)) gq (Ay.peek cd.plOk cd 1 12 rfl rfl dl [XR x54] (ft _)) (by kernel_rfl) fun jq gr=>?_
     obtain⟨gA,jG,a⟩:=Ao a
     obtain⟨dx,d6,ik⟩:=Aj jG
     have cx:=AG dx d6
     obtain⟨i4,ic,fu⟩:=AM (sz:=1) rfl bd ik
     obtain rfl:=ic
     obtain⟨ci,dm⟩:=AP cd (i:=1) rfl (b0:=0+Yc aA*1) (Y5 (Y6 (by decide)) (A3 (sz:=1) rfl bd cx))
     have ho:=cd.addPlc (b:=ci) (o:=0+Yc aA*1) (cs:=[]) (fun j c hj=>by simp at hj) rfl (by kernel_rfl) (by kernel_rfl)
     have i7:∀ (e:AJ) k c,([XR gA]:List SC)[k]? = some c→(ar)[0+Yc aA*1+k]? = some (c.den e):=fun e k c hk=>fu k _ (Ak hk)
     have d7:=d6
     rw [c4] at d7
     refine A9 5 (aA) rfl rfl (rfl) rfl (by decide) gr (by rfl) (by rfl) (by rfl) dm (by rfl) dx d7 (by kernel_rfl) fun ee (gs:Kn _ [(aI,0),(aN,0),(bE,0),(bF,0),(bV,0),(aY,0),(bG,0),(aL,0),(aG,0),(s,0+Yc aA*1),(u,0+Yc aA*1),(x,0+Yc aA*1),(bz,0+Yc aA*1),(ci,0+Yc aA*1)] ((tP 57 13 0)::(tI 56 (IntKind.i64.wrap (x54+1)))::(tI 53 aA)::(tS 52 aO room.length aP)::(FP aA room bK l bL)) _)=>?_
     obtain⟨dd,ej,a⟩:=Ao a
     obtain⟨jb,jd,d9⟩:=Cl ej
     refine wl fun K hK=>?_
     refine B4 1 13 0 (0+Yc aA*1) (.c (XR (IntKind.i64.wrap (x54+1)))) gs ho rfl rfl (by rfl) (by rfl) rfl rfl dm rfl (by kernel_rfl) (A3 (sz:=1) rfl bd cx) fun j6 gu ds=>?_
     have fv:Ae bc dd (ar.take (0+Yc aA*1+0)++([.int .i64 (IntKind.i64.wrap (x54+1))]:Ye)++ar.drop (0+Yc aA*1+0+1)):=by rw [d9]; exact Df (sz:=1) rfl bd cx (Ad:rep bc (IntKind.i64.wrap (x54+1):Int) _)
     have ht:dd.length=room.length:=by rw [d9]; simp [c4]
     refine hK _ _ ?_
     have gv:Kn _ _ (FP aA room bK l bL) _:=gu.kp
     refine wf (Aa (Rk 0 2 [tI 32 (IntKind.i64.wrap (aA+1)),tI 31 ((room.length:Nat):Int),tS 0 bK l.length bL,tP 6 3 0,tP 7 6 0] gv ds fun jr gw=>?_))
     refine wf ?_
     exact XY bt ⟨Y4 _,XY dd ⟨IntKind.i64.wrap (aA+1),cG.1,cG.2.1,cG.2.2.1,cG.2.2.2.2,ar.take (0+(aA:Int).toNat*1+0)++([.int .i64 (IntKind.i64.wrap (x54+1))]:Ye)++ar.drop (0+(aA:Int).toNat*1+0+1),bh,bj,bm,bk,_,_,rfl,(gw.keep [32,31,0,6,7] (by rfl)).cut 9 (by kernel_rfl),(ds.cutRw 2).cutPl 9 (by kernel_rfl),XU am cz,fv,ht,h0,el,(by omega),a⟩⟩
    rw [cn,XV] at a
    refine wp_skip (Aa (F4 0 2 [32,31,0,6,7] [tI 32 (IntKind.i64.wrap (aA+1)),tI 31 ((room.length:Nat):Int),tS 0 bK l.length bL,tP 6 3 0,tP 7 6 0] cu (Ay.peek a1.plOk a1 1 9 rfl rfl bp [XR cK] (b7 _)) (by kernel_rfl) fun js gx=>?_))
    refine wf ?_
    exact XY bt ⟨Y4 _,XY aB ⟨IntKind.i64.wrap (aA+1),aC,cA,ge,gY,aq,a3,a4,bb,a9,_,_,rfl,(gx.keep [32,31,0,6,7] (by rfl)).cut 9 (by kernel_rfl),a1.cutPl 9 (by kernel_rfl),am,ax,be,c5,cj,(by omega),a⟩⟩
   rw [cm,XV] at a
   refine wp_exit ?_
   obtain rfl:=XZ a
   exact XY aq ⟨a3,a4,bb,a9,_,_,rfl,ct.kp,bf,am,ax,be,c5,cj⟩
  rintro _ j7 ⟨cg,bw,b1,b5,b3,c8,a6,rfl,i8,hq,hc,fl,g5,hz,ek⟩
  obtain rfl:=XZ H
  exact LY rfl ⟨a6,bw,b1,cg,b5,b3,hc,rfl,hz,g5,fl,ek,(hq.cutRw 2).cutPl 4 (by kernel_rfl)⟩
theorem Pu (n:Nat) {F:Fr} {h:Ac} {w:World} {bV aY aI aN bE bF bG aL aG:Nat} (l:List Int) {bK:Yd} {bL:Nat} {fF:Ye} (gK:Ae h l fF) (found:Bool) (many:Int) (best:List Int) {z:Yd} {aa:Nat} (ab:At h z aa best) (room:List Int) {aO:Yd} {aP:Nat} {dN:Ye} (eO:Ae h room dN) (y:Am) (eL:B9 h bV y) (fR:As h aY [.func (.func 28) #[] #[.pointer (some ⟨aL,0,none⟩),.pointer (some ⟨bV,0,none⟩),.pointer (some ⟨aG,0,none⟩),.pointer (some ⟨aI,0,none⟩),.pointer (some ⟨aN,0,none⟩)]]) (gE:As h bG [.func (.func 32) #[] #[.pointer (some ⟨bV,0,none⟩),.pointer (some ⟨aY,0,none⟩),.pointer (some ⟨aI,0,none⟩),.pointer (some ⟨aN,0,none⟩),.pointer (some ⟨bE,0,none⟩),.pointer (some ⟨bF,0,none⟩),.pointer (some ⟨bG,0,none⟩)]]) (breaks:List A1) (dU:B9 h aL breaks) (known:List (Fy×Int)) {aM:Nat} {cW:Array MapEntry} {cX:Nat} (cM:As h aG [.map (some aM)]) (hX_known:F.X aM=some (.map cW cX)) (hE_known:Cy h cW.toList cX known) (hm:Ai F h [(aI,0),(aN,0),(bE,0),(bF,0)] [⟨[.bool found],some 4⟩,⟨[XR many],some 3⟩,⟨[Yb z best.length aa],some 26⟩,⟨[Yb aO room.length aP],some 26⟩] [⟨bK,l.length,bL,3,1,fF,0⟩,⟨aO,room.length,aP,3,1,dN,0⟩] w) {r:Bool×Int×(List Int)×(List Int)×(List (Fy×Int))} (H:lane_Best_2 n l found many best room y breaks known=some r) :
  Calls Tryz.prog 32 #[.slice bK l.length bL,.pointer (some ⟨bV,0,none⟩),.pointer (some ⟨aY,0,none⟩),.pointer (some ⟨aI,0,none⟩),.pointer (some ⟨aN,0,none⟩),.pointer (some ⟨bE,0,none⟩),.pointer (some ⟨bF,0,none⟩),.pointer (some ⟨bG,0,none⟩)] w (Jw fun v w'=>∃ (h':Ac)(bg:Yd)(bi:Nat)(bv:Ye)(bn:Array MapEntry)(bl:Nat),Ac.le h h'∧(v=.tuple #[])∧At h' bg bi r.2.2.1∧r.2.2.2.1.length=room.length∧Ae h' r.2.2.2.1 bv∧Cy h' bn.toList bl r.2.2.2.2∧Ai (Fr.put F aM (some (.map bn bl))) h' [(aI,0),(aN,0),(bE,0),(bF,0)] [⟨[.bool r.1],some 4⟩,⟨[.int .i64 r.2.1],some 3⟩,⟨[.slice bg r.2.2.1.length bi],some 26⟩,⟨[.slice aO room.length aP],some 26⟩] [⟨bK,l.length,bL,3,1,fF,0⟩,⟨aO,room.length,aP,3,1,bv,0⟩] w'):=NV n F h w bV aY aI aN bE bF bG aL aG l bK bL fF gK found many best z aa ab room aO aP dN eO y eL fR gE breaks dU known aM cW cX cM hX_known hE_known hm r H
abbrev Pv (b d g j k f l):=([(b,0),(d,0),(g,0),(j,0),(k,0),(f,0),(l,0)]:AJ)
abbrev FC:TM:=[tP 3 1 0,tP 1 0 0]
abbrev Q1:TM:=(tP 9 5 0)::(tP 8 4 0)::(tP 7 3 0)::(tP 6 2 0)::FC
theorem Mr (n:Nat) {h:Ac} {w:World} (hh:CK h w) (y:Am) {dQ:Ye} (eD:rep h y dQ) {r:(List Int)×Int×Int} (H:GQ n y=some r) :
  Calls Tryz.prog 12 #[.agg dQ.toArray] w (CP (fun h v=>∃ v0 v1 v2,v=.tuple #[v0,v1,v2]∧(∃ a c,v0=.slice a r.1.length c∧At h a c r.1)∧(v1=.int .i64 r.2.1)∧(v2=.int .i64 r.2.2)) h w):=by
 obtain⟨_,_,rfl,⟨p,q,rfl,ad⟩,⟨_,_,rfl,⟨s,x,rfl,ak⟩,rfl⟩⟩:=eD
 refine enter 32 [.agg (Mh p y q s x)] Tryz.func12 rfl rfl rfl rfl fun t hk=>?_
 have hm:=Ai.begin h w hh
 unfold GQ at H
 refine XT (Aa (wl fun K hK=>?_))
 refine wb (.agg (Mh p y q s x)) hk hm fun b ek fv (cg:Kn _ [(b,0)] [tP 1 0 0,tA 0 (Mh p y q s x)] _) bt=>hK _ _ ?_
 refine Rk 1 1 [tP 1 0 0] cg bt fun ey cm=>?_
 refine wl fun K hK=>?_
 refine wa [XR 0] cm bt fun d eg fl (cx:Kn _ [(b,0),(d,0)] FC _) au=>hK _ _ ?_
 refine Rk 3 1 FC cx au fun e0 c1=>?_
 refine wf (XT (XT (Aa (Rk 0 1 ((tA 13 (Mh p y q s x))::FC) c1 au fun e4 c8=>?_))))
 obtain⟨cQ,fX,H⟩:=Ao H
 refine wl fun K hK=>?_
 refine wc [.agg (Mh p y q s x)] c8 au (Fm n au.has y ((Ab (Af ad) (Ab (Af ak) Ad)):rep h y _) fX) fun fe cb fo b6 br aj=>?_
 replace ad:=ad.mono br
 replace ak:=ak.mono br
 obtain rfl:=b6
 refine⟨.one (.c (XR cQ)),rfl,fun eh (c9:Kn _ [(b,0),(d,0)] ((tI 14 cQ)::(tA 13 (Mh p y q s x))::FC) _)=>hK _ _ ?_⟩
 refine Rk 2 1 ((tI 5 cQ)::FC) c9 aj fun e7 da=>?_
 refine wf (XT (Aa (Rk 0 2 ((tB 16 (cQ != 0))::(tI 5 cQ)::FC) da aj fun e8 a7=>?_)))
 refine wf (wC ((cQ != 0)) a7 (fun a1=>?_) (fun a1=>?_))
 ·
  rw [a1,XW] at H
  refine XT (Aa (Rk 0 2 [tS 2 none 0 0,tI 17 cQ,tP 3 1 0] a7 aj fun e9 db=>?_))
  refine wl fun K hK=>?_
  refine DT 1 0 (.c (XR 0)) [XR 0] db aj fun fp dc bx=>hK _ _ ?_
  refine Rk 3 1 [tI 4 cQ,tS 2 none 0 0,tP 3 1 0] dc bx fun fa dd=>?_
  refine wf (wp_ret ?_)
  obtain rfl:=XZ H
  exact rt (.tup [.c (Yb none 0 0),.c (XR 0),.c (XR cQ)]) dd bx ⟨_,_,_,rfl,⟨_,_,rfl,At.nil⟩,rfl,rfl⟩
 rw [a1,XV] at H
 refine wp_skip (XT (Aa (Rk 0 1 ((tA 18 (Mh p y q s x))::FC) a7 aj fun fb de=>?_)))
 obtain⟨bZ,lB,H⟩:=Ao H
 refine wl fun K hK=>?_
 refine wc [.agg (Mh p y q s x)] de aj (Kc n aj.has y ((Ab (Af ad) (Ab (Af ak) Ad)):rep cb y _) lB) fun ff et fq b7 bs d3=>?_
 replace ad:=ad.mono bs
 obtain⟨ab,ac,rfl,bg⟩:=b7
 refine⟨.one (.c (Yb ab bZ.length ac)),rfl,fun ei (df:Kn _ [(b,0),(d,0)] ((tS 19 ab bZ.length ac)::(tA 18 (Mh p y q s x))::FC) _)=>hK _ _ ?_⟩
 refine wl fun K hK=>?_
 refine wa [Yb none 0 0] df d3 fun g b3 fr (dg:Kn _ [(b,0),(d,0),(g,0)] ((tP 6 2 0)::(tS 19 ab bZ.length ac)::(tA 18 (Mh p y q s x))::FC) _) d4=>hK _ _ ?_
 refine wl fun K hK=>?_
 refine DT 2 0 (.c (Yb ab bZ.length ac)) [Yb ab bZ.length ac] dg d4 fun fs dh d5=>hK _ _ ?_
 have di:Kn _ _ ((tP 6 2 0)::FC) _:=dh.kp
 refine wf (XT (Aa (wl fun K hK=>?_)))
 refine wa [Yb none 0 0] di d5 fun j ej ft (dj:Kn _ [(b,0),(d,0),(g,0),(j,0)] ((tP 7 3 0)::(tP 6 2 0)::FC) _) be=>hK _ _ ?_
 refine wf (XT (Aa (Rk 0 2 ((tS 21 p y.room.length q)::(tP 7 3 0)::(tP 6 2 0)::FC) dj be fun fc dk=>?_)))
 obtain⟨cB,gL,H⟩:=Ao H
 refine wl fun K hK=>?_
 refine ET [.c (Yb p y.room.length q)] _ dk be rfl rfl (by decide) (by rfl) rfl (fun _ _=>by kernel_rfl) (Dy n be.has y.room ad gL) fun fg ax en ex b8 a8 bf=>?_
 obtain⟨u,z,ae,rfl,rfl,a3⟩:=b8
 replace bf:Ai _ _ [(b,0),(d,0),(g,0),(j,0)] [⟨Mh p y q s x,some 51⟩,⟨[XR 0],some 3⟩,⟨[Yb ab bZ.length ac],some 77⟩,⟨[Yb none 0 0],some 26⟩] [⟨u,cB.length,z,3,1,ae,0⟩] _:=bf
 refine⟨.one (.c (Yb u cB.length z)),rfl,fun el (dl:Kn _ [(b,0),(d,0),(g,0),(j,0)] ((tS 22 u cB.length z)::(tS 21 p y.room.length q)::(tP 7 3 0)::(tP 6 2 0)::FC) _)=>hK _ _ ?_⟩
 refine wl fun K hK=>?_
 refine wa [Yb none 0 0] dl bf fun k b4 fu (dm:Kn _ [(b,0),(d,0),(g,0),(j,0),(k,0)] ((tP 8 4 0)::(tS 22 u cB.length z)::(tS 21 p y.room.length q)::(tP 7 3 0)::(tP 6 2 0)::FC) _) d6=>hK _ _ ?_
 refine wl fun K hK=>?_
 refine DT 4 0 (.c (Yb u cB.length z)) [Yb u cB.length z] dm d6 fun fw dp d7=>hK _ _ ?_
 have dq:Kn _ _ ((tP 8 4 0)::(tP 7 3 0)::(tP 6 2 0)::FC) _:=dp.kp
 refine wf (XT (Aa (wl fun K hK=>?_)))
 refine wa [.bool false] dq d7 fun f em fx (dr:Kn _ [(b,0),(d,0),(g,0),(j,0),(k,0),(f,0)] Q1 _) d8=>hK _ _ ?_
 refine wl fun K hK=>?_
 refine DT 5 0 (.c (.bool false)) [.bool false] dr d8 fun eo ch du=>hK _ _ ?_
 refine wf (XT (Aa (wl fun K hK=>?_)))
 refine KI ch du rfl rfl (by decide) fun aa ed es (ci:Kn _ [(b,0),(d,0),(g,0),(j,0),(k,0),(f,0)] ((23,.one (.c (.map (some aa))))::Q1) _) (dv:Ai _ _ [(b,0),(d,0),(g,0),(j,0),(k,0),(f,0)] [⟨Mh p y q s x,some 51⟩,⟨[XR 0],some 3⟩,⟨[Yb ab bZ.length ac],some 77⟩,⟨[Yb none 0 0],some 26⟩,⟨[Yb u cB.length z],some 26⟩,⟨[.bool false],some 4⟩] [⟨u,cB.length,z,3,1,ae,0⟩] _)=>?_
 have aw:Cy ax (#[]:Array MapEntry).toList 0 ([]:List (Fy×Int)):=Cy.nil
 refine hK _ _ ?_
 refine wl fun K hK=>?_
 refine wa [.map none] ci dv fun l bz fh (cj:Kn _ (Pv b d g j k f l) ((tP 10 6 0)::(23,.one (.c (.map (some aa))))::Q1) _) dw=>hK _ _ ?_
 refine wl fun K hK=>?_
 refine DT 6 0 (.c (.map (some aa))) [.map (some aa)] cj dw fun bi ck dx=>hK _ _ ?_
 have cl:Kn _ _ ((tP 10 6 0)::Q1) _:=ck.kp
 refine wf (XT (Aa ?_))
 obtain⟨ao,am,bp,a9⟩:=dx.settlePlc (i:=2) rfl
 replace bg:=bg.mono (XU a8 am)
 replace a9:Ai _ _ (Pv b d g j k f l) [⟨Mh p y q s x,some 51⟩,⟨[XR 0],some 3⟩,⟨[Yb ab bZ.length ac],none⟩,⟨[Yb none 0 0],some 26⟩,⟨[Yb u cB.length z],some 26⟩,⟨[.bool false],some 4⟩,⟨[.map (some aa)],some 80⟩] [⟨u,cB.length,z,3,1,ae,0⟩] _:=a9
 have ay:B9 ao g (bZ:List A1):=B9.of (e:=(Pv b d g j k f l)) (cs:=[Yb ab bZ.length ac]) ((Af bg):rep ao (bZ:List A1) _) rfl bp
 have ev:As ao g [.slice ab bZ.length ac]:=As.of (e:=[(b,0),(d,0),(g,0),(j,0),(k,0),(f,0),(l,0)]) (cs:=[.slice ab bZ.length ac]) rfl bp
 obtain⟨ap,an,bq,ba⟩:=a9.settlePlc (i:=0) rfl
 replace ad:=ad.mono (XU (XU a8 am) an)
 replace ak:=ak.mono (XU (XU (XU bs a8) am) an)
 replace ba:Ai _ _ (Pv b d g j k f l) [⟨Mh p y q s x,none⟩,⟨[XR 0],some 3⟩,⟨[Yb ab bZ.length ac],none⟩,⟨[Yb none 0 0],some 26⟩,⟨[Yb u cB.length z],some 26⟩,⟨[.bool false],some 4⟩,⟨[.map (some aa)],some 80⟩] [⟨u,cB.length,z,3,1,ae,0⟩] _:=ba
 have az:B9 ap b (y:Am):=B9.of (e:=(Pv b d g j k f l)) (cs:=(Mh p y q s x)) ((Ab (Af ad) (Ab (Af ak) Ad)):rep ap (y:Am) _) rfl bq
 have ew:As ap b [.slice p y.room.length q,.slice s y.lG.length x,.int .i64 y.broken]:=As.of (e:=[(b,0),(d,0),(g,0),(j,0),(k,0),(f,0),(l,0)]) (cs:=[.slice p y.room.length q,.slice s y.lG.length x,.int .i64 y.broken]) rfl bq
 obtain⟨aq,ar,cd,bb⟩:=ba.settlePlc (i:=6) rfl
 replace bb:Ai _ _ (Pv b d g j k f l) [⟨Mh p y q s x,none⟩,⟨[XR 0],some 3⟩,⟨[Yb ab bZ.length ac],none⟩,⟨[Yb none 0 0],some 26⟩,⟨[Yb u cB.length z],some 26⟩,⟨[.bool false],some 4⟩,⟨[.map (some aa)],none⟩] [⟨u,cB.length,z,3,1,ae,0⟩] _:=bb
 have a4:As aq l [.map (some aa)]:=As.of (e:=[(b,0),(d,0),(g,0),(j,0),(k,0),(f,0),(l,0)]) (cs:=[.map (some aa)]) rfl cd
 refine Ey 0 #[] #[.pointer (some ⟨g,0,none⟩),.pointer (some ⟨b,0,none⟩),.pointer (some ⟨l,0,none⟩),.pointer (some ⟨f,0,none⟩),.pointer (some ⟨d,0,none⟩)] cl rfl rfl (rfl) rfl (by decide) (by rfl) (by rfl) (by rfl) (by rfl) fun ee (cn:Kn _ (Pv b d g j k f l) ((24,.one (.c (.func (.func 28) #[] #[.pointer (some ⟨g,0,none⟩),.pointer (some ⟨b,0,none⟩),.pointer (some ⟨l,0,none⟩),.pointer (some ⟨f,0,none⟩),.pointer (some ⟨d,0,none⟩)])))::(tP 10 6 0)::Q1) _)=>?_
 refine wl fun K hK=>?_
 refine wa [.nilfunc] cn bb fun m b0 fi (co:Kn _ [(b,0),(d,0),(g,0),(j,0),(k,0),(f,0),(l,0),(m,0)] ((tP 11 7 0)::(24,.one (.c (.func (.func 28) #[] #[.pointer (some ⟨g,0,none⟩),.pointer (some ⟨b,0,none⟩),.pointer (some ⟨l,0,none⟩),.pointer (some ⟨f,0,none⟩),.pointer (some ⟨d,0,none⟩)])))::(tP 10 6 0)::Q1) _) dy=>hK _ _ ?_
 refine wl fun K hK=>?_
 refine DT 7 0 (.c (.func (.func 28) #[] #[.pointer (some ⟨g,0,none⟩),.pointer (some ⟨b,0,none⟩),.pointer (some ⟨l,0,none⟩),.pointer (some ⟨f,0,none⟩),.pointer (some ⟨d,0,none⟩)])) (Kx g b l f d) co dy fun fj cp dz=>hK _ _ ?_
 have cq:Kn _ _ ((tP 11 7 0)::(tP 9 5 0)::(tP 8 4 0)::(tP 7 3 0)::FC) _:=cp.kp
 refine wf (XT (Aa (wl fun K hK=>?_)))
 refine wa [.nilfunc] cq dz fun o ef fk (cr:Kn _ (Gw b d g j k f l m o) ((tP 12 8 0)::(tP 11 7 0)::(tP 9 5 0)::(tP 8 4 0)::(tP 7 3 0)::FC) _) d0=>hK _ _ ?_
 refine wf (XT (Aa (Ey 0 #[] #[.pointer (some ⟨b,0,none⟩),.pointer (some ⟨m,0,none⟩),.pointer (some ⟨f,0,none⟩),.pointer (some ⟨d,0,none⟩),.pointer (some ⟨j,0,none⟩),.pointer (some ⟨k,0,none⟩),.pointer (some ⟨o,0,none⟩)] cr rfl rfl (rfl) rfl (by decide) (by rfl) (by rfl) (by rfl) (by rfl) fun b1 (ct:Kn _ (Gw b d g j k f l m o) ((25,.one (.c (.func (.func 32) #[] #[.pointer (some ⟨b,0,none⟩),.pointer (some ⟨m,0,none⟩),.pointer (some ⟨f,0,none⟩),.pointer (some ⟨d,0,none⟩),.pointer (some ⟨j,0,none⟩),.pointer (some ⟨k,0,none⟩),.pointer (some ⟨o,0,none⟩)])))::(tP 12 8 0)::(tP 11 7 0)::(tP 9 5 0)::(tP 8 4 0)::(tP 7 3 0)::FC) _)=>?_)))
 refine wl fun K hK=>?_
 refine DT 8 0 (.c (.func (.func 32) #[] #[.pointer (some ⟨b,0,none⟩),.pointer (some ⟨m,0,none⟩),.pointer (some ⟨f,0,none⟩),.pointer (some ⟨d,0,none⟩),.pointer (some ⟨j,0,none⟩),.pointer (some ⟨k,0,none⟩),.pointer (some ⟨o,0,none⟩)])) (Ky b m f d j k o) ct d0 fun bj cu bu=>hK _ _ ?_
 have cv:Kn _ _ [tP 12 8 0,tP 9 5 0,tP 7 3 0,tP 3 1 0] _:=cu.kp
 refine wf (XT (Aa (Rk 0 1 [(26,.one (.c (.func (.func 32) #[] #[.pointer (some ⟨b,0,none⟩),.pointer (some ⟨m,0,none⟩),.pointer (some ⟨f,0,none⟩),.pointer (some ⟨d,0,none⟩),.pointer (some ⟨j,0,none⟩),.pointer (some ⟨k,0,none⟩),.pointer (some ⟨o,0,none⟩)]))),tP 9 5 0,tP 7 3 0,tP 3 1 0] cv bu fun ez cw=>?_)))
 have d1:Ai _ _ (Gw b d g j k f l m o) [⟨Mh p y q s x,none⟩,⟨[XR 0],some 3⟩,⟨[Yb ab bZ.length ac],none⟩,⟨[Yb none 0 0],some 26⟩,⟨[Yb u cB.length z],some 26⟩,⟨[.bool false],some 4⟩,⟨[.map (some aa)],none⟩,⟨Kx g b l f d,some 96⟩,⟨Ky b m f d j k o,some 97⟩] [⟨u,cB.length,z,3,1,ae,0⟩,⟨none,0,0,3,1,([]:Ye),0⟩] _:=bu.nilRow 3 1
 have a2:Ae aq ([]:List Int) []:=Ae.nil
 obtain⟨bm,al,ce,bc⟩:=d1.settlePlc (i:=7) rfl
 replace bc:Ai _ _ (Gw b d g j k f l m o) [⟨Mh p y q s x,none⟩,⟨[XR 0],some 3⟩,⟨[Yb ab bZ.length ac],none⟩,⟨[Yb none 0 0],some 26⟩,⟨[Yb u cB.length z],some 26⟩,⟨[.bool false],some 4⟩,⟨[.map (some aa)],none⟩,⟨Kx g b l f d,none⟩,⟨Ky b m f d j k o,some 97⟩] [⟨u,cB.length,z,3,1,ae,0⟩,⟨none,0,0,3,1,([]:Ye),0⟩] _:=bc
 have a5:As bm m [.func (.func 28) #[] #[.pointer (some ⟨g,0,none⟩),.pointer (some ⟨b,0,none⟩),.pointer (some ⟨l,0,none⟩),.pointer (some ⟨f,0,none⟩),.pointer (some ⟨d,0,none⟩)]]:=As.of (e:=[(b,0),(d,0),(g,0),(j,0),(k,0),(f,0),(l,0),(m,0),(o,0)]) (cs:=[.func (.func 28) #[] #[.pointer (some ⟨g,0,none⟩),.pointer (some ⟨b,0,none⟩),.pointer (some ⟨l,0,none⟩),.pointer (some ⟨f,0,none⟩),.pointer (some ⟨d,0,none⟩)]]) rfl ce
 obtain⟨bn,ah,cf,bd⟩:=bc.settlePlc (i:=8) rfl
 replace ay:=ay.mono (XU (XU (XU an ar) al) ah)
 replace az:=az.mono (XU (XU ar al) ah)
 replace a4:=a4.mono (XU al ah)
 replace a5:=a5.mono ah
 replace a3:=a3.mono (XU (XU (XU (XU am an) ar) al) ah)
 replace a2:=a2.mono (XU al ah)
 replace aw:=aw.mono (XU (XU (XU (XU am an) ar) al) ah)
 replace bd:Ai _ _ (Gw b d g j k f l m o) [⟨Mh p y q s x,none⟩,⟨[XR 0],some 3⟩,⟨[Yb ab bZ.length ac],none⟩,⟨[Yb none 0 0],some 26⟩,⟨[Yb u cB.length z],some 26⟩,⟨[.bool false],some 4⟩,⟨[.map (some aa)],none⟩,⟨Kx g b l f d,none⟩,⟨Ky b m f d j k o,none⟩] [⟨u,cB.length,z,3,1,ae,0⟩,⟨none,0,0,3,1,([]:Ye),0⟩] _:=bd
 have cc:As bn o [.func (.func 32) #[] #[.pointer (some ⟨b,0,none⟩),.pointer (some ⟨m,0,none⟩),.pointer (some ⟨f,0,none⟩),.pointer (some ⟨d,0,none⟩),.pointer (some ⟨j,0,none⟩),.pointer (some ⟨k,0,none⟩),.pointer (some ⟨o,0,none⟩)]]:=As.of (e:=[(b,0),(d,0),(g,0),(j,0),(k,0),(f,0),(l,0),(m,0),(o,0)]) (cs:=[.func (.func 32) #[] #[.pointer (some ⟨b,0,none⟩),.pointer (some ⟨m,0,none⟩),.pointer (some ⟨f,0,none⟩),.pointer (some ⟨d,0,none⟩),.pointer (some ⟨j,0,none⟩),.pointer (some ⟨k,0,none⟩),.pointer (some ⟨o,0,none⟩)]]) rfl cf
 obtain⟨dG,iP,H⟩:=Ao H
 obtain⟨ep,ca,ds,ec⟩:=bd.lend1 aa (Fr.put_X _ _ _) [5,1,3,4] [1,0] (by kernel_rfl) (by kernel_rfl) (by kernel_rfl) (by kernel_rfl)
 refine wl fun K hK=>?_
 refine ED (.func (.func 32) #[] #[.pointer (some ⟨b,0,none⟩),.pointer (some ⟨m,0,none⟩),.pointer (some ⟨f,0,none⟩),.pointer (some ⟨d,0,none⟩),.pointer (some ⟨j,0,none⟩),.pointer (some ⟨k,0,none⟩),.pointer (some ⟨o,0,none⟩)]) [.c (Yb none 0 0)] _ cw rfl rfl (by decide) (by rfl) (by rfl) rfl ⟨32,_,_,rfl,fun _ _=>by kernel_rfl,Pu n ([]:List Int) a2 false 0 ([]:List Int) At.nil cB a3 y az a5 cc bZ ay ([]:List (Fy×Int)) a4 (ca _ _ (Fr.put_X _ _ _)) aw ds iP⟩ fun fd b5 b9=>?_
 obtain⟨bo,af,ag,bh,bl,bk,dt,rfl,eb,d9,eu,er,d2⟩:=b9
 have av:=ec _ _ _ _ [⟨none,0,0,3,1,([]:Ye),0⟩,⟨u,cB.length,z,3,1,bh,0⟩] dt rfl (Y7 rfl) (by kernel_rfl) d2
 rw [Fr.put_put] at av
 replace av:Ai _ _ [(b,0),(d,0),(g,0),(j,0),(k,0),(f,0),(l,0),(m,0),(o,0)] [⟨[Yb p y.room.length q,Yb s y.lG.length x,XR y.broken],none⟩,⟨[XR dG.2.1],some 3⟩,⟨[Yb ab bZ.length ac],none⟩,⟨[Yb af dG.2.2.1.length ag],some 26⟩,⟨[Yb u cB.length z],some 26⟩,⟨[.bool dG.1],some 4⟩,⟨[.map (some aa)],none⟩,⟨[.func (.func 28) #[] #[.pointer (some ⟨g,0,none⟩),.pointer (some ⟨b,0,none⟩),.pointer (some ⟨l,0,none⟩),.pointer (some ⟨f,0,none⟩),.pointer (some ⟨d,0,none⟩)]],none⟩,⟨[.func (.func 32) #[] #[.pointer (some ⟨b,0,none⟩),.pointer (some ⟨m,0,none⟩),.pointer (some ⟨f,0,none⟩),.pointer (some ⟨d,0,none⟩),.pointer (some ⟨j,0,none⟩),.pointer (some ⟨k,0,none⟩),.pointer (some ⟨o,0,none⟩)]],none⟩] [⟨u,cB.length,z,3,1,bh,0⟩,⟨none,0,0,3,1,([]:Ye),0⟩] _:=av
 refine⟨.tup [],rfl,fun b2 (cy:Kn _ (Gw b d g j k f l m o) [(27,.tup []),(26,.one (.c (.func (.func 32) #[] #[.pointer (some ⟨b,0,none⟩),.pointer (some ⟨m,0,none⟩),.pointer (some ⟨f,0,none⟩),.pointer (some ⟨d,0,none⟩),.pointer (some ⟨j,0,none⟩),.pointer (some ⟨k,0,none⟩),.pointer (some ⟨o,0,none⟩)]))),tP 9 5 0,tP 7 3 0,tP 3 1 0] _)=>hK _ _ ?_⟩
 have ea:=d9.symm
 have cz:=cy
 have ai:Ai (Fr.put ⟨w,h,BF⟩ aa (some (.map bl bk))) bo [(b,0),(d,0),(g,0),(j,0),(k,0),(f,0),(l,0),(m,0),(o,0)] [⟨[Yb p y.room.length q,Yb s y.lG.length x,XR y.broken],none⟩,⟨[XR dG.2.1],some 3⟩,⟨[Yb ab bZ.length ac],none⟩,⟨[Yb af dG.2.2.1.length ag],some 26⟩,⟨[Yb u dG.2.2.2.1.length z],some 26⟩,⟨[.bool dG.1],some 4⟩,⟨[.map (some aa)],none⟩,⟨[.func (.func 28) #[] #[.pointer (some ⟨g,0,none⟩),.pointer (some ⟨b,0,none⟩),.pointer (some ⟨l,0,none⟩),.pointer (some ⟨f,0,none⟩),.pointer (some ⟨d,0,none⟩)]],none⟩,⟨[.func (.func 32) #[] #[.pointer (some ⟨b,0,none⟩),.pointer (some ⟨m,0,none⟩),.pointer (some ⟨f,0,none⟩),.pointer (some ⟨d,0,none⟩),.pointer (some ⟨j,0,none⟩),.pointer (some ⟨k,0,none⟩),.pointer (some ⟨o,0,none⟩)]],none⟩] [⟨u,dG.2.2.2.1.length,z,3,1,bh,0⟩,⟨none,0,0,3,1,([]:Ye),0⟩] b5:=by rw [← ea]; exact av
 have c0:Kn _ _ [tP 9 5 0,tP 7 3 0,tP 3 1 0] _:=cz.kp
 refine wf (XT (XT (Aa (Rk 0 2 [tB 29 (!dG.1),tP 7 3 0,tP 3 1 0] c0 ai fun e1 a6=>?_))))
 refine wf (wC ((!dG.1)) a6 (fun a0=>?_) (fun a0=>?_))
 ·
  rw [a0,XW] at H
  refine XT (Aa (Rk 0 1 [tS 2 none 0 0,tP 3 1 0] a6 ai fun e2 c2=>?_))
  refine wl fun K hK=>?_
  refine DT 1 0 (.c (XR 0)) [XR 0] c2 ai fun fm c3 bv=>hK _ _ ?_
  refine Rk 2 1 [tI 4 9,tS 2 none 0 0,tP 3 1 0] c3 bv fun e3 c4=>?_
  refine wf (wp_ret ?_)
  obtain rfl:=XZ H
  exact rt (.tup [.c (Yb none 0 0),.c (XR 0),.c (XR 9)]) c4 bv ⟨_,_,_,rfl,⟨_,_,rfl,At.nil⟩,rfl,rfl⟩
 rw [a0,XV] at H
 refine wp_skip (XT (Au (by kernel_rfl) ?_))
 replace ai:=ai.drew
 refine Ax [] (Gw b d g j k f l m o) [⟨Mh p y q s x,none⟩,⟨[XR dG.2.1],some 3⟩,⟨[Yb ab bZ.length ac],none⟩,⟨[Yb af dG.2.2.1.length ag],some 26⟩,⟨[Yb u dG.2.2.2.1.length z],some 26⟩,⟨[.bool dG.1],some 4⟩,⟨[.map (some aa)],none⟩,⟨Kx g b l f d,none⟩,⟨Ky b m f d j k o,none⟩] ?_
 refine Dr [0,1,2] [2,1,0] [tS 2 af dG.2.2.1.length ag,tI 31 dG.2.1,tP 3 1 0] a6 ai fun e5 c5=>?_
 refine CU 3 rfl (by kernel_rfl) (by decide) (rfl) (by kernel_rfl) fun K hK=>?_
 refine DT 1 0 (.c (XR dG.2.1)) [XR dG.2.1] c5 ai fun fn c6 bw=>hK _ _ ?_
 refine Ax [] (Gw b d g j k f l m o) [⟨Mh p y q s x,none⟩,⟨[XR dG.2.1],some 3⟩,⟨[Yb ab bZ.length ac],none⟩,⟨[Yb af dG.2.2.1.length ag],some 26⟩,⟨[Yb u dG.2.2.2.1.length z],some 26⟩,⟨[.bool dG.1],some 4⟩,⟨[.map (some aa)],none⟩,⟨Kx g b l f d,none⟩,⟨Ky b m f d j k o,none⟩] ?_
 refine Dr [4] (dn 4) [tI 4 0,tS 2 af dG.2.2.1.length ag,tP 3 1 0] c6 bw fun e6 c7=>?_
 refine AL (by kernel_rfl) (wp_ret ?_)
 obtain rfl:=XZ H
 exact rt (.tup [.c (Yb af dG.2.2.1.length ag),.c (XR dG.2.1),.c (XR 0)]) c7 bw ⟨_,_,_,rfl,⟨_,_,rfl,eb⟩,rfl,rfl⟩
end Go.Proofs.YtinminkmefljbaaGreat
