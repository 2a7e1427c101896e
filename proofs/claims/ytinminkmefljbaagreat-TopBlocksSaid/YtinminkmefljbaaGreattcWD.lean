/- Each call computes its plain function. -/
import Derived.Test.YtinminkmefljbaaGreatProg
import Derived.Test.YtinminkmefljbaaGreattcWB
import Derived.Test.YtinminkmefljbaaGreattcWC
set_option linter.all false
namespace Go.Proofs.YtinminkmefljbaaGreat
open Go Go.RowKit
set_option maxRecDepth 100000
set_option maxHeartbeats 4000000
open Rep (rep)
open KRep (kv)
open VRep (rv)
abbrev S3 (d f)(i:Nat)(b:Int)(k)(l:Nat)(c:Int):=([(d,0),(f,i+Yc b*1),(k,l+Yc c*1)]:AJ)
abbrev WR (n_:Cz):=([.bool n_.broken.a0,.bool n_.broken.a1,.bool n_.broken.a2,.bool n_.broken.a3,.bool n_.broken.a4,.bool n_.broken.a5,.bool n_.broken.a6,.bool n_.broken.a7]:List SC)
abbrev Ui (m)(n_:Cz)(q p s a e):=([Yb m n_.yard.room.length q,Yb p n_.yard.lG.length s,XR n_.yard.broken,Yb a n_.lane.length e,XR n_.tm.a0,XR n_.tm.a1,XR n_.tm.a2,XR n_.tm.a3,XR n_.tm.a4,XR n_.tm.a5,XR n_.tm.a6,XR n_.tm.a7,.bool n_.broken.a0,.bool n_.broken.a1,.bool n_.broken.a2,.bool n_.broken.a3,.bool n_.broken.a4,.bool n_.broken.a5,.bool n_.broken.a6,.bool n_.broken.a7]:List SC)
abbrev ND (b c):=([tP 3 0 0,tI 1 b,tI 2 c]:TM)
theorem J6 (n:Nat) {h:Ac} {w:World} (hh:CK h w) (n_:Cz) {jP:Ye} (kX:rep h n_ jP) (b:Int) (c:Int) {r:Bool} (H:CD n n_ b c=some r) :
  Calls Tryz.prog 66 #[.agg jP.toArray,.int .i64 b,.int .i64 c] w (CP (fun h v=>v=.bool r) h w):=by
 obtain⟨_,_,rfl,⟨_,_,rfl,⟨m,q,rfl,bu⟩,⟨_,_,rfl,⟨p,s,rfl,bv⟩,rfl⟩⟩,⟨_,_,rfl,⟨a,e,rfl,af⟩,⟨_,_,rfl,⟨_,_,rfl,rfl,⟨_,_,rfl,rfl,⟨_,_,rfl,rfl,⟨_,_,rfl,rfl,⟨_,_,rfl,rfl,⟨_,_,rfl,rfl,⟨_,_,rfl,rfl,rfl⟩⟩⟩⟩⟩⟩⟩,⟨_,_,rfl,rfl,⟨_,_,rfl,rfl,⟨_,_,rfl,rfl,⟨_,_,rfl,rfl,⟨_,_,rfl,rfl,⟨_,_,rfl,rfl,⟨_,_,rfl,rfl,rfl⟩⟩⟩⟩⟩⟩⟩⟩⟩⟩:=kX
 refine enter 29 [.agg (Ui m n_ q p s a e),.c (XR b),.c (XR c)] Tryz.func66 rfl rfl rfl rfl fun t hk=>?_
 have hm:=Ai.begin h w hh
 unfold CD at H
 refine XT (Aa (wl fun K hK=>?_))
 refine wb (.agg (Ui m n_ q p s a e)) hk hm fun d bl b4 (al:Kn _ [(d,0)] [tP 3 0 0,tA 0 (Ui m n_ q p s a e),tI 1 b,tI 2 c] _) u=>hK _ _ ?_
 refine Rk 1 1 (ND b c) al u fun bw am=>?_
 refine wf (XT (Au (by kernel_rfl) ?_))
 replace u:=u.drew
 refine Ax [] [(d,0)] [⟨Ui m n_ q p s a e,some 102⟩] ?_
 refine Dr [0,1,2] [2,1,0] ((tI 9 b)::(tS 8 a n_.lane.length e)::(ND b c)) am u fun bx an=>?_
 obtain⟨iM,kU,H⟩:=Ao H
 obtain⟨az,bb,bh⟩:=Aj kU
 obtain⟨f,i,bs,ah,bf,aj⟩:=af.get (by decide) bh
 obtain rfl:=bf
 have ad:=u.addPlc (b:=f) (o:=i+Yc b*1) (cs:=[XR iM]) (fun j c hj=>aj j _ (Ak hj)) rfl (by kernel_rfl) (by kernel_rfl)
 refine A5 3 (b) [XR iM] (fun _ _ _ _ _ h=>h) rfl rfl (rfl) rfl (by decide) (by kernel_rfl) (by kernel_rfl) an u.plOk (by rfl) (by rfl) (by rfl) ah (by rfl) az bb (by kernel_rfl) fun bm (ao:Kn _ [(d,0),(f,i+Yc b*1)] ((tP 10 1 0)::(tI 9 b)::(tS 8 a n_.lane.length e)::(ND b c)) _)=>?_
 refine Dr [4,5,6,7] (dn 7) ((tI 14 c)::(tS 13 a n_.lane.length e)::(tI 11 iM)::(ND b c)) ao ad fun bz ap=>?_
 obtain⟨dJ,jH,H⟩:=Ao H
 obtain⟨a8,bc,bi⟩:=Aj jH
 obtain⟨k,l,bt,ai,bg,ak⟩:=af.get (by decide) bi
 obtain rfl:=bg
 have g:=ad.addPlc (b:=k) (o:=l+Yc c*1) (cs:=[XR dJ]) (fun j c hj=>ak j _ (Ak hj)) rfl (by kernel_rfl) (by kernel_rfl)
 refine A5 8 (c) [XR dJ] (fun _ _ _ _ _ h=>h) rfl rfl (rfl) rfl (by decide) (by kernel_rfl) (by kernel_rfl) ap ad.plOk (by rfl) (by rfl) (by rfl) ai (by rfl) a8 bc (by kernel_rfl) fun bn (aq:Kn _ (S3 d f i b k l c) ((tP 15 2 0)::(tI 14 c)::(tS 13 a n_.lane.length e)::(tI 11 iM)::(ND b c)) _)=>?_
 refine Dr [9,10,11] (dn 11) ((tB 18 (iM == dJ))::(ND b c)) aq g fun ag ae=>?_
 rcases Y2 ((iM == dJ)) with x | x
 ·
  rw [x,XW] at H
  have ar:Kn _ _ ((tB 18 true)::(ND b c)) _:=(ae.setB 18 true (by rfl) x).kp
  refine Dr [12,13] (dn 13) [tP 20 0 4,tI 19 b,tB 18 true,tP 3 0 0,tI 2 c] ar g fun b0 z=>?_
  obtain⟨cR,iY,H⟩:=Ao H
  obtain⟨a9,bd⟩:=BI iY
  refine Jn 14 (.one (.c (.ptr 0 (4+Yc b*1)))) (fun _ _ _ _ _ h=>h) rfl (by kernel_rfl) (by kernel_rfl) (Al z (by kernel_rfl)) rfl g.plOk (fun _ h=>h) (fun w=>AZ (E:=3) z rfl (by kernel_rfl) (by kernel_rfl) (by rfl) (by rfl) a9 bd) (z.put (by decide) _) fun bo (aa:Kn _ (S3 d f i b k l c) [tP 21 0 (4+Yc b*1),tP 20 0 4,tI 19 b,tB 18 true,tP 3 0 0,tI 2 c] _)=>?_
  obtain⟨cB,gL,H⟩:=Ao H
  obtain⟨_,_,bj⟩:=Aj gL
  refine Re 15 (.one (.c (XR cB))) (fun _ _ _ _ _ h=>h) rfl (by kernel_rfl) (by kernel_rfl) (by kernel_rfl) (Al aa (by kernel_rfl)) rfl g.plOk (fun w hw=>CA aa hw rfl (by rfl) rfl (by kernel_rfl) (F8 (fun(y:Int)=>([XR y]:List SC)) 1 (fun _=>rfl) [Yb m n_.yard.room.length q,Yb p n_.yard.lG.length s,XR n_.yard.broken,Yb a n_.lane.length e] (WR n_) n_.tm.toL _ _ bj rfl rfl)) (aa.put (by decide) _) fun bp (au:Kn _ (S3 d f i b k l c) [tI 22 cB,tP 21 0 (4+Yc b*1),tP 20 0 4,tI 19 b,tB 18 true,tP 3 0 0,tI 2 c] _)=>?_
  refine Dr [16,17] (dn 17) [tP 24 0 4,tI 23 c,tI 22 cB,tB 18 true] au g fun b1 ab=>?_
  obtain⟨eC,iD,H⟩:=Ao H
  obtain⟨ba,be⟩:=BI iD
  refine Jn 18 (.one (.c (.ptr 0 (4+Yc c*1)))) (fun _ _ _ _ _ h=>h) rfl (by kernel_rfl) (by kernel_rfl) (Al ab (by kernel_rfl)) rfl g.plOk (fun _ h=>h) (fun w=>AZ (E:=3) ab rfl (by kernel_rfl) (by kernel_rfl) (by rfl) (by rfl) ba be) (ab.put (by decide) _) fun bq (ac:Kn _ (S3 d f i b k l c) [tP 25 0 (4+Yc c*1),tP 24 0 4,tI 23 c,tI 22 cB,tB 18 true] _)=>?_
  obtain⟨cJ,gD,H⟩:=Ao H
  obtain⟨_,_,bk⟩:=Aj gD
  refine Re 19 (.one (.c (XR cJ))) (fun _ _ _ _ _ h=>h) rfl (by kernel_rfl) (by kernel_rfl) (by kernel_rfl) (Al ac (by kernel_rfl)) rfl g.plOk (fun w hw=>CA ac hw rfl (by rfl) rfl (by kernel_rfl) (F8 (fun(y:Int)=>([XR y]:List SC)) 1 (fun _=>rfl) [Yb m n_.yard.room.length q,Yb p n_.yard.lG.length s,XR n_.yard.broken,Yb a n_.lane.length e] (WR n_) n_.tm.toL _ _ bk rfl rfl)) (ac.put (by decide) _) fun br (av:Kn _ (S3 d f i b k l c) [tI 26 cJ,tP 25 0 (4+Yc c*1),tP 24 0 4,tI 23 c,tI 22 cB,tB 18 true] _)=>?_
  refine Dr [20,21,22] (dn 22) [tB 6 (decide (cB<cJ))] av g fun b2 aw=>?_
  refine AL (by kernel_rfl) (wp_ret ?_)
  obtain rfl:=XZ H
  exact rt (.one (.c (.bool (decide (cB<cJ))))) aw g rfl
 rw [x,XV] at H
 have ax:Kn _ _ ((tB 18 false)::(ND b c)) _:=(ae.setB 18 false (by rfl) x).kp
 refine Dr [12,13,14,15,16,17,18,19,20,21,22] (dn 22) [tB 6 false] ax g fun b3 ay=>?_
 refine AL (by kernel_rfl) (wp_ret ?_)
 obtain rfl:=XZ H
 exact rt (.one (.c (.bool false))) ay g rfl
theorem Ia (n:Nat) {h:Ac} {w:World} (hh:CK h w) (c:Int) (d:Int) (q0:Cz) {cH:Nat} (fA:B9 h cH q0) {r:Int} (H:AR n c d q0=some r) :
  Calls Tryz.prog 68 #[.int .i64 c,.int .i64 d,.pointer (some ⟨cH,0,none⟩)] w (CP (fun h v=>v=.int .i64 r) h w):=by
 obtain⟨_,fB,fC⟩:=id fA
 obtain⟨_,_,rfl,⟨_,_,rfl,⟨a,g,rfl,ak⟩,⟨_,_,rfl,⟨b,i,rfl,al⟩,rfl⟩⟩,⟨_,_,rfl,⟨f,k,rfl,am⟩,⟨_,_,rfl,⟨_,_,rfl,rfl,⟨_,_,rfl,rfl,⟨_,_,rfl,rfl,⟨_,_,rfl,rfl,⟨_,_,rfl,rfl,⟨_,_,rfl,rfl,⟨_,_,rfl,rfl,rfl⟩⟩⟩⟩⟩⟩⟩,⟨_,_,rfl,rfl,⟨_,_,rfl,rfl,⟨_,_,rfl,rfl,⟨_,_,rfl,rfl,⟨_,_,rfl,rfl,⟨_,_,rfl,rfl,⟨_,_,rfl,rfl,rfl⟩⟩⟩⟩⟩⟩⟩⟩⟩⟩:=fB
 refine DZ (e:=[(cH,0)]) 15 [.c (XR c),.c (XR d),.c (.ptr 0 0)] Tryz.func68 rfl rfl rfl rfl fun t hk=>?_
 have hm:=Ai.begin h w hh
 replace hm:=hm.addPlc (o:=0) (cs:=[Yb a q0.yard.room.length g,Yb b q0.yard.lG.length i,XR q0.yard.broken,Yb f q0.lane.length k,XR q0.tm.a0,XR q0.tm.a1,XR q0.tm.a2,XR q0.tm.a3,XR q0.tm.a4,XR q0.tm.a5,XR q0.tm.a6,XR q0.tm.a7,.bool q0.broken.a0,.bool q0.broken.a1,.bool q0.broken.a2,.bool q0.broken.a3,.bool q0.broken.a4,.bool q0.broken.a5,.bool q0.broken.a6,.bool q0.broken.a7]) (fun j c hj=>by rw [Y3]; exact fC j _ (Ak hj)) rfl (by kernel_rfl) (by kernel_rfl)
 replace hm:Ai _ _ [(cH,0)] [⟨Ui a q0 g b i f k,none⟩] [] _:=hm
 unfold AR at H
 refine XT (Aa (Rk 0 1 [tI 0 c,tI 1 d,tP 2 0 0] hk hm fun an s=>?_))
 refine wf (XT (Au (by kernel_rfl) ?_))
 replace hm:=hm.drew
 refine Ax [] [(cH,0)] [⟨Ui a q0 g b i f k,none⟩] ?_
 refine Dr [0,1] [1,0] [tP 7 0 4,tI 6 c,tI 1 d,tP 2 0 0] s hm fun ao l=>?_
 obtain⟨x8,ex8,H⟩:=Ao H
 obtain⟨aa,ac⟩:=BI ex8
 refine Jn 2 (.one (.c (.ptr 0 (4+Yc c*1)))) (fun _ _ _ _ _ h=>h) rfl (by kernel_rfl) (by kernel_rfl) (rfl) rfl hm.plOk (fun _ h=>h) (fun w=>AZ (E:=3) l rfl (by kernel_rfl) (by kernel_rfl) (by rfl) (by rfl) aa ac) (l.put (by decide) _) fun ag (m:Kn _ [(cH,0)] [tP 8 0 (4+Yc c*1),tP 7 0 4,tI 6 c,tI 1 d,tP 2 0 0] _)=>?_
 obtain⟨x9,kW,H⟩:=Ao H
 obtain⟨_,_,ae⟩:=Aj kW
 refine Re 3 (.one (.c (XR x9))) (fun _ _ _ _ _ h=>h) rfl (by kernel_rfl) (by kernel_rfl) (by kernel_rfl) (rfl) rfl hm.plOk (fun w hw=>CA m hw rfl (by rfl) rfl (by kernel_rfl) (F8 (fun(y:Int)=>([XR y]:List SC)) 1 (fun _=>rfl) [Yb a q0.yard.room.length g,Yb b q0.yard.lG.length i,XR q0.yard.broken,Yb f q0.lane.length k] (WR q0) q0.tm.toL _ _ ae rfl rfl)) (m.put (by decide) _) fun ah (u:Kn _ [(cH,0)] [tI 9 x9,tP 8 0 (4+Yc c*1),tP 7 0 4,tI 6 c,tI 1 d,tP 2 0 0] _)=>?_
 refine Dr [4,5] (dn 5) [tP 11 0 4,tI 10 d,tI 9 x9] u hm fun ap p=>?_
 obtain⟨cI,iZ,H⟩:=Ao H
 obtain⟨ab,ad⟩:=BI iZ
 refine Jn 6 (.one (.c (.ptr 0 (4+Yc d*1)))) (fun _ _ _ _ _ h=>h) rfl (by kernel_rfl) (by kernel_rfl) (rfl) rfl hm.plOk (fun _ h=>h) (fun w=>AZ (E:=3) p rfl (by kernel_rfl) (by kernel_rfl) (by rfl) (by rfl) ab ad) (p.put (by decide) _) fun ai (q:Kn _ [(cH,0)] [tP 12 0 (4+Yc d*1),tP 11 0 4,tI 10 d,tI 9 x9] _)=>?_
 obtain⟨cC,fY,H⟩:=Ao H
 obtain⟨_,_,af⟩:=Aj fY
 refine Re 7 (.one (.c (XR cC))) (fun _ _ _ _ _ h=>h) rfl (by kernel_rfl) (by kernel_rfl) (by kernel_rfl) (rfl) rfl hm.plOk (fun w hw=>CA q hw rfl (by rfl) rfl (by kernel_rfl) (F8 (fun(y:Int)=>([XR y]:List SC)) 1 (fun _=>rfl) [Yb a q0.yard.room.length g,Yb b q0.yard.lG.length i,XR q0.yard.broken,Yb f q0.lane.length k] (WR q0) q0.tm.toL _ _ af rfl rfl)) (q.put (by decide) _) fun aj (x:Kn _ [(cH,0)] [tI 13 cC,tP 12 0 (4+Yc d*1),tP 11 0 4,tI 10 d,tI 9 x9] _)=>?_
 refine Dr [8,9] (dn 9) [tI 5 (Ya (x9-cC))] x hm fun aq z=>?_
 refine AL (by kernel_rfl) (wp_ret ?_)
 obtain rfl:=XZ H
 exact rt (.one (.c (XR (Ya (x9-cC))))) z hm rfl
abbrev XF (s:((List (List Int))×A1)):=([.bool s.2.a0,.bool s.2.a1,.bool s.2.a2,.bool s.2.a3,.bool s.2.a4,.bool s.2.a5,.bool s.2.a6,.bool s.2.a7]:List SC)
abbrev WW (u:((List Int)×A1)):=([.bool u.2.a0,.bool u.2.a1,.bool u.2.a2,.bool u.2.a3,.bool u.2.a4,.bool u.2.a5,.bool u.2.a6,.bool u.2.a7]:List SC)
abbrev J7 (d)(n_:Cz)(g f j l m):=([.func (.func 66) #[.agg #[.slice d n_.yard.room.length g,.slice f n_.yard.lG.length j,.int .i64 n_.yard.broken,.slice l n_.lane.length m,.int .i64 n_.tm.a0,.int .i64 n_.tm.a1,.int .i64 n_.tm.a2,.int .i64 n_.tm.a3,.int .i64 n_.tm.a4,.int .i64 n_.tm.a5,.int .i64 n_.tm.a6,.int .i64 n_.tm.a7,.bool n_.broken.a0,.bool n_.broken.a1,.bool n_.broken.a2,.bool n_.broken.a3,.bool n_.broken.a4,.bool n_.broken.a5,.bool n_.broken.a6,.bool n_.broken.a7]] #[]]:List SC)
abbrev Rp (d)(n_:Cz)(g f j l m z)(s:((List (List Int))×A1))(ab):=([⟨Ui d n_ g f j l m,none⟩,⟨[Yb z s.1.length ab],some 22⟩,⟨XF s,some 82⟩,⟨J7 d n_ g f j l m,some 135⟩]:List C0)
abbrev FY (aA)(n_:Cz)(ac)(aB:List Int)(ad dJ):=([tI 20 aA,tI 19 ((n_.yard.lG.length:Nat):Int),tS 6 ac aB.length ad,tI 5 dJ,tP 4 3 0,tP 3 2 0,tP 2 1 0,tP 1 0 0]:TM)
abbrev DI:TM:=[tP 3 2 0,tP 2 1 0,tP 1 0 0]
abbrev KS (aA)(n_:Cz)(dJ):=((tI 20 aA)::(tI 19 ((n_.yard.lG.length:Nat):Int))::(tI 5 dJ)::(tP 4 3 0)::DI:TM)
theorem FN (n:Nat) {h:Ac} {w:World} (hh:CK h w) (n_:Cz) {jP:Ye} (kX:rep h n_ jP) {r:List (List Int)} (H:Cw n n_=some r) :
  Calls Tryz.prog 37 #[.agg jP.toArray] w (CP (fun h v=>∃ a c,v=.slice a r.length c∧At h a c r) h w):=by
 obtain⟨_,_,rfl,⟨_,_,rfl,⟨d,g,rfl,ap⟩,⟨_,_,rfl,⟨f,j,rfl,aq⟩,rfl⟩⟩,⟨_,_,rfl,⟨l,m,rfl,av⟩,⟨_,_,rfl,⟨_,_,rfl,rfl,⟨_,_,rfl,rfl,⟨_,_,rfl,rfl,⟨_,_,rfl,rfl,⟨_,_,rfl,rfl,⟨_,_,rfl,rfl,⟨_,_,rfl,rfl,rfl⟩⟩⟩⟩⟩⟩⟩,⟨_,_,rfl,rfl,⟨_,_,rfl,rfl,⟨_,_,rfl,rfl,⟨_,_,rfl,rfl,⟨_,_,rfl,rfl,⟨_,_,rfl,rfl,⟨_,_,rfl,rfl,rfl⟩⟩⟩⟩⟩⟩⟩⟩⟩⟩:=kX
 refine QZ (e:=[]) 50 [.agg (Ui d n_ g f j l m)] Tryz.func37 rfl rfl rfl rfl fun t hk=>?_
 have hm:=Ai.begin h w hh
 unfold Cw at H
 refine XT (Aa (wl fun K hK=>?_))
 refine wb (.agg (Ui d n_ g f j l m)) hk hm fun b gv im (el:Kn _ [(b,0)] [tP 1 0 0,tA 0 (Ui d n_ g f j l m)] _) f3=>hK _ _ ?_
 refine wl fun K hK=>?_
 refine wa [Yb none 0 0] el f3 fun o dp ir (ex:Kn _ [(b,0),(o,0)] [tP 2 1 0,tP 1 0 0,tA 0 (Ui d n_ g f j l m)] _) f4=>hK _ _ ?_
 have e4:Kn _ _ [tP 2 1 0,tP 1 0 0] _:=ex.kp
 refine wf (XT (Aa (wl fun K hK=>?_)))
 refine wa VQ e4 f4 fun p g2 ix (fc:Kn _ [(b,0),(o,0),(p,0)] DI _) df=>hK _ _ ?_
 refine wf (XT (Aa (Rk 0 1 ((tA 8 (Ui d n_ g f j l m))::DI) fc df fun ib fi=>?_)))
 refine Ey 1 #[.agg #[.slice d n_.yard.room.length g,.slice f n_.yard.lG.length j,.int .i64 n_.yard.broken,.slice l n_.lane.length m,.int .i64 n_.tm.a0,.int .i64 n_.tm.a1,.int .i64 n_.tm.a2,.int .i64 n_.tm.a3,.int .i64 n_.tm.a4,.int .i64 n_.tm.a5,.int .i64 n_.tm.a6,.int .i64 n_.tm.a7,.bool n_.broken.a0,.bool n_.broken.a1,.bool n_.broken.a2,.bool n_.broken.a3,.bool n_.broken.a4,.bool n_.broken.a5,.bool n_.broken.a6,.bool n_.broken.a7]] #[] fi rfl rfl (rfl) rfl (by decide) (by rfl) (by rfl) (by rfl) (by rfl) fun g4 (fj:Kn _ [(b,0),(o,0),(p,0)] ((9,.one (.c (.func (.func 66) #[.agg #[.slice d n_.yard.room.length g,.slice f n_.yard.lG.length j,.int .i64 n_.yard.broken,.slice l n_.lane.length m,.int .i64 n_.tm.a0,.int .i64 n_.tm.a1,.int .i64 n_.tm.a2,.int .i64 n_.tm.a3,.int .i64 n_.tm.a4,.int .i64 n_.tm.a5,.int .i64 n_.tm.a6,.int .i64 n_.tm.a7,.bool n_.broken.a0,.bool n_.broken.a1,.bool n_.broken.a2,.bool n_.broken.a3,.bool n_.broken.a4,.bool n_.broken.a5,.bool n_.broken.a6,.bool n_.broken.a7]] #[])))::(tA 8 (Ui d n_ g f j l m))::DI) _)=>?_
 refine wl fun K hK=>?_
 refine wa [.nilfunc] fj df fun q dt i1 (fn:Kn _ (CW b o p q) ((tP 4 3 0)::(9,.one (.c (.func (.func 66) #[.agg #[.slice d n_.yard.room.length g,.slice f n_.yard.lG.length j,.int .i64 n_.yard.broken,.slice l n_.lane.length m,.int .i64 n_.tm.a0,.int .i64 n_.tm.a1,.int .i64 n_.tm.a2,.int .i64 n_.tm.a3,.int .i64 n_.tm.a4,.int .i64 n_.tm.a5,.int .i64 n_.tm.a6,.int .i64 n_.tm.a7,.bool n_.broken.a0,.bool n_.broken.a1,.bool n_.broken.a2,.bool n_.broken.a3,.bool n_.broken.a4,.bool n_.broken.a5,.bool n_.broken.a6,.bool n_.broken.a7]] #[])))::(tA 8 (Ui d n_ g f j l m))::DI) _) f8=>hK _ _ ?_
 refine wl fun K hK=>?_
 refine DT 3 0 (.c (.func (.func 66) #[.agg #[.slice d n_.yard.room.length g,.slice f n_.yard.lG.length j,.int .i64 n_.yard.broken,.slice l n_.lane.length m,.int .i64 n_.tm.a0,.int .i64 n_.tm.a1,.int .i64 n_.tm.a2,.int .i64 n_.tm.a3,.int .i64 n_.tm.a4,.int .i64 n_.tm.a5,.int .i64 n_.tm.a6,.int .i64 n_.tm.a7,.bool n_.broken.a0,.bool n_.broken.a1,.bool n_.broken.a2,.bool n_.broken.a3,.bool n_.broken.a4,.bool n_.broken.a5,.bool n_.broken.a6,.bool n_.broken.a7]] #[])) (J7 d n_ g f j l m) fn f8 fun i2 fo ci=>hK _ _ ?_
 have fp:Kn _ _ ((tP 4 3 0)::DI) _:=fo.kp
 refine wf (XT (XT (Aa (Rk 0 4 ((tA 13 (WR n_))::(tA 11 [Yb d n_.yard.room.length g,Yb f n_.yard.lG.length j,XR n_.yard.broken])::(tP 4 3 0)::DI) fp ci fun ic fq=>?_))))
 obtain⟨cQ,fX,H⟩:=Ao H
 refine wl fun K hK=>?_
 refine wc [.agg [Yb d n_.yard.room.length g,Yb f n_.yard.lG.length j,XR n_.yard.broken],.agg (WR n_)] fq ci (He n ci.has n_.yard ((Ab (Af ap) (Ab (Af aq) Ad)):rep h n_.yard _) n_.broken ((Ab Ag (Ab Ag (Ab Ag (Ab Ag (Ab Ag (Ab Ag (Ab Ag Ag))))))):rep h n_.broken _) fX) fun ik ho ay d6 cb f9=>?_
 obtain⟨bp,rfl,bb⟩:=d6
 refine⟨.one (.c (.func (.func 107) #[] #[.pointer (some ⟨bp,0,none⟩)])),rfl,fun du (fr:Kn _ (CW b o p q) ((14,.one (.c (.func (.func 107) #[] #[.pointer (some ⟨bp,0,none⟩)])))::(tA 13 (WR n_))::(tA 11 [Yb d n_.yard.room.length g,Yb f n_.yard.lG.length j,XR n_.yard.broken])::(tP 4 3 0)::DI) _)=>hK _ _ ?_⟩
 have b9:Kn _ _ ((14,.one (.c (.func (.func 107) #[] #[.pointer (some ⟨bp,0,none⟩)])))::(tP 4 3 0)::DI) _:=fr.kp
 refine wf (wp_block ?_)
 obtain⟨ba,bw,c0,cj⟩:=f9.settlePlc (i:=0) rfl
 replace ap:=ap.mono (XU cb bw)
 replace aq:=aq.mono (XU cb bw)
 replace av:=av.mono (XU cb bw)
 replace bb:=bb.mono bw
 replace cj:Ai _ _ (CW b o p q) [⟨Ui d n_ g f j l m,none⟩,⟨[Yb none 0 0],some 22⟩,⟨VQ,some 82⟩,⟨J7 d n_ g f j l m,some 135⟩] [] _:=cj
 have bc:B9 ba b (n_:Cz):=B9.of (e:=(CW b o p q)) (cs:=(Ui d n_ g f j l m)) ((Ab (Ab (Af ap) (Ab (Af aq) Ad)) (Ab (Af av) (Ab (Ab Ad (Ab Ad (Ab Ad (Ab Ad (Ab Ad (Ab Ad (Ab Ad Ad))))))) (Ab Ag (Ab Ag (Ab Ag (Ab Ag (Ab Ag (Ab Ag (Ab Ag Ag)))))))))):rep ba (n_:Cz) _) rfl c0
 have br:As ba b [.slice d n_.yard.room.length g,.slice f n_.yard.lG.length j,.int .i64 n_.yard.broken,.slice l n_.lane.length m,.int .i64 n_.tm.a0,.int .i64 n_.tm.a1,.int .i64 n_.tm.a2,.int .i64 n_.tm.a3,.int .i64 n_.tm.a4,.int .i64 n_.tm.a5,.int .i64 n_.tm.a6,.int .i64 n_.tm.a7,.bool n_.broken.a0,.bool n_.broken.a1,.bool n_.broken.a2,.bool n_.broken.a3,.bool n_.broken.a4,.bool n_.broken.a5,.bool n_.broken.a6,.bool n_.broken.a7]:=As.of (e:=[(b,0),(o,0),(p,0),(q,0)]) (cs:=[.slice d n_.yard.room.length g,.slice f n_.yard.lG.length j,.int .i64 n_.yard.broken,.slice l n_.lane.length m,.int .i64 n_.tm.a0,.int .i64 n_.tm.a1,.int .i64 n_.tm.a2,.int .i64 n_.tm.a3,.int .i64 n_.tm.a4,.int .i64 n_.tm.a5,.int .i64 n_.tm.a6,.int .i64 n_.tm.a7,.bool n_.broken.a0,.bool n_.broken.a1,.bool n_.broken.a2,.bool n_.broken.a3,.bool n_.broken.a4,.bool n_.broken.a5,.bool n_.broken.a6,.bool n_.broken.a7]) rfl c0
 have ga:Ai _ _ (CW b o p q) [⟨Ui d n_ g f j l m,none⟩,⟨[Yb none 0 0],some 22⟩,⟨VQ,some 82⟩,⟨J7 d n_ g f j l m,some 135⟩] [⟨none,0,0,26,1,[],0⟩] _:=cj.nilRow 26 1
 have ed:Ae ba ([]:List (List Int)) []:=Ae.nil
 obtain⟨ae,dz,H⟩:=Ao H
 refine MN (.func (.func 107) #[] #[.pointer (some ⟨bp,0,none⟩)]) b9 (by rfl) rfl (fun _ _=>by kernel_rfl) fun aw dl=>?_
 obtain⟨dx,f2,hf,gb⟩:=Ai.loopBegin ga (Gp.nil _) ⟨rfl,rfl⟩ aw
 have d4:Xz (fun(s:(List (List Int))×A1)(h':Ac)(w':World)=>∃ (Fj:Fr)(z:Yd)(ab:Nat)(ag:Ye),I1 w h Fj ((ay).heap.size+1) aw ((ay).heap.size::([]:List Nat))∧Ai Fj h' (CW b o p q) (Rp d n_ g f j l m z s ab) [⟨z,s.1.length,ab,26,1,ag,0⟩] w'∧Ae h' s.1 ag∧Ac.le ba h'):=⟨fun s h' w' hj=>by obtain⟨_,z,ab,ag,_,hm,au,_⟩:=hj; exact hm.has,fun s h' h'' w' w'' hj hb hle hn=>by obtain⟨Fj,z,ab,ag,hlf,hm,au,hle0⟩:=hj; exact⟨Fj,z,ab,ag,hlf,hm.call hb hle hn,au.mono hle,XU hle0 hle⟩⟩
 refine⟨_,E2 n d4 (fun(s:(List (List Int))×A1)(dJ:Int)=>((((AQ n n_ dJ ([]:List Int) 0 s.2).bind fun u =>
    ((AW n u.1 (fun(y0:Int)(y1:Int)=>AR n y0 y1 n_)).bind fun dI =>
    ((LZ 8 dJ).bind fun dW =>
    ((A1.setI u.2 dJ true).bind fun ah =>
    ((Ih s.1 ([dI]:List (List Int))).bind fun fN =>
    some (fN,ah)))))):Option ((List (List Int))×A1)).bind fun s1=>some (s1,true))) ?_ (([]:List (List Int)),(A1.mk false false false false false false false false)) ⟨dx,none,0,[],f2,gb,ed,Ac.le_refl _⟩ cQ bb dz,?_⟩
 ·
  intro s dJ s' hc bg ct ei  b0
  obtain⟨dy,z,ab,ag,cc,bh,au,bd⟩:=ei
  obtain⟨hv,ai,b0⟩:=Ao b0
  cases b0
  replace ap:=ap.mono bd
  replace aq:=aq.mono bd
  replace av:=av.mono bd
  replace bc:=bc.mono bd
  replace bh:Ai _ _ (CW b o p q) (Rp d n_ g f j l m z s ab) [⟨z,s.1.length,ab,26,1,ag,0⟩] _:=bh
  refine TU dl (bh.ext cc.loop) ?_
  have fs:Kn _ (CW b o p q) ((tI 15 dJ)::(tP 4 3 0)::DI) _:=(b9.kp.put (k:=15) (by decide) (.one (.c (XR dJ))))
  refine AI (by kernel_rfl) (Rk 0 1 ((tI 5 dJ)::(tP 4 3 0)::DI) fs bh fun ie ft=>?_)
  refine wf ?_
  refine⟨bh.ext cc.loop,?_⟩
  obtain⟨ar,c9,hg,bm⟩:=Ai.loopStep bh cc { aw with state:=.busy }
  replace bm:Ai _ _ (CW b o p q) (Rp d n_ g f j l m z s ab) [⟨z,s.1.length,ab,26,1,ag,0⟩] _:=bm
  refine Jx (F9 (AI (by kernel_rfl) (Rk 0 1 ((tS 6 none 0 0)::(tI 5 dJ)::(tP 4 3 0)::DI) ft bm fun ig fu=>?_)))
  refine wf (F9 (F9 (AI (by kernel_rfl) (Rk 0 5 ((tI 20 0)::(tI 19 ((n_.yard.lG.length:Nat):Int))::(tS 6 none 0 0)::(tI 5 dJ)::(tP 4 3 0)::DI) fu bm fun ih fv=>?_))))
  refine wf ?_
  have gc:Ai _ _ (CW b o p q) (Rp d n_ g f j l m z s ab) [⟨z,s.1.length,ab,26,1,ag,0⟩,⟨none,0,0,3,1,[],0⟩] _:=bm.nilRow 3 1
  have ee:Ae bg ([]:List Int) []:=Ae.nil
  obtain⟨u,cx,ai⟩:=Ao ai
  refine TS (fun a' w'=>∃ (x:Yd)(aa:Nat)(cq:Ye)(cm:Array Value)(bj:Ac),a' = ⟨cm,[]⟩∧Kn 50 (CW b o p q) ((tS 6 x u.1.length aa)::(tI 5 dJ)::DI) cm∧Ai ar bj (CW b o p q) [⟨Ui d n_ g f j l m,none⟩,⟨[Yb z s.1.length ab],some 22⟩,⟨WW u,some 82⟩,⟨J7 d n_ g f j l m,some 135⟩] [⟨z,s.1.length,ab,26,1,ag,0⟩,⟨x,u.1.length,aa,3,1,cq,0⟩] w'∧Ac.le bg bj∧Ae bj u.1 cq) ?_ ?_
  ·
   refine Jx ?_
   refine UM (fun gu a' w'=>∃ (aB:List Int)(aA:Int)(aC:A1)(ac:Yd)(ad:Nat)(ax:Ye)(cn:Array Value)(a9:Ac),a' = ⟨cn,[]⟩∧Kn 50 (CW b o p q) (FY aA n_ ac aB ad dJ) cn∧Ai ar a9 (CW b o p q) [⟨Ui d n_ g f j l m,none⟩,⟨[Yb z s.1.length ab],some 22⟩,⟨WP aC,some 82⟩,⟨J7 d n_ g f j l m,some 135⟩] [⟨z,s.1.length,ab,26,1,ag,0⟩,⟨ac,aB.length,ad,3,1,ax,0⟩] w'∧Ac.le bg a9∧Ae a9 aB ax∧AQ gu n_ dJ aB aA aC=some u) n ?_ ?_
   ·
    exact XY ([]:List Int) ⟨0,s.2,none,0,[],_,_,rfl,fv.kp,gc,Ac.le_refl _,ee,cx⟩
   rintro bi _ il ⟨aB,aA,aC,ac,ad,ax,cn,a9,rfl,ej,aj,al,bl,af⟩
   clear cx
   obtain _ | bi:=bi
   ·
    rw [AQ] at af; cases af
   rw [AQ] at af
   replace ap:=ap.mono al
   replace aq:=aq.mono al
   replace av:=av.mono al
   refine F9 (AI (by kernel_rfl) (Rk 0 1 ((tB 21 (decide (aA<((n_.yard.lG.length:Nat):Int))))::(FY aA n_ ac aB ad dJ)) ej aj fun hw b7=>?_))
   refine wf (F9 (OV (decide (aA<((n_.yard.lG.length:Nat):Int))) b7 (by kernel_rfl) (fun b1=>?_) (fun b1=>?_)))
   ·
    rw [b1,XW] at af
    refine TR (F9 (Jx (F9 (AI (by kernel_rfl) (Rk 0 2 ((tI 7 aA)::(FY aA n_ ac aB ad dJ)) b7 aj fun hx ek=>?_)))))
    refine wf (F9 ?_)
    obtain⟨dm,ak,af⟩:=Ao af
    refine TS (fun a' w'=>∃ (co:Array Value)(be:Ac),a' = ⟨co,[]⟩∧Kn 50 (CW b o p q) [tI 7 aA,tI 20 aA,tI 19 ((n_.yard.lG.length:Nat):Int),tS 6 ac aB.length ad,tI 5 dJ,tP 4 3 0,tP 3 2 0,tP 2 1 0,tP 1 0 0,tB 32 dm] co∧Ai ar be (CW b o p q) [⟨Ui d n_ g f j l m,none⟩,⟨[Yb z s.1.length ab],some 22⟩,⟨WP aC,some 82⟩,⟨J7 d n_ g f j l m,some 135⟩] [⟨z,s.1.length,ab,26,1,ag,0⟩,⟨ac,aB.length,ad,3,1,ax,0⟩] w'∧Ac.le a9 be) ?_ ?_
    ·
     refine AI (by kernel_rfl) (Rk 0 1 ((tI 23 aA)::(tI 7 aA)::(FY aA n_ ac aB ad dJ)) ek aj fun hy c1=>?_)
     obtain⟨dA,gV,ak⟩:=Ao ak
     obtain⟨gf,gi⟩:=BI gV
     refine Eg 1 (.one (.c (.ptr 2 (0+Yc aA*1)))) rfl (rfl) rfl (AZ (E:=4) c1 rfl (by kernel_rfl) (by kernel_rfl) (by rfl) (by rfl) gf gi) (c1.put (by decide) _) fun gw (c2:Kn _ (CW b o p q) ((tP 24 2 (0+Yc aA*1))::(tI 23 aA)::(tI 7 aA)::(FY aA n_ ac aB ad dJ)) _)=>?_
     obtain⟨eC,iD,ak⟩:=Ao ak
     obtain⟨_,_,gq⟩:=Aj iD
     refine Eg 2 (.one (.c (.bool eC))) rfl (rfl) rfl (CA c2 aj.plOk rfl (by rfl) rfl (by kernel_rfl) (F8 (fun(y:Bool)=>([.bool y]:List SC)) 1 (fun _=>rfl) [] [] aC.toL _ _ gq rfl rfl)) (c2.put (by decide) _) fun gx (em:Kn _ (CW b o p q) ((tB 25 eC)::(tP 24 2 (0+Yc aA*1))::(tI 23 aA)::(tI 7 aA)::(FY aA n_ ac aB ad dJ)) _)=>?_
     refine Rk 3 2 ((tB 27 (!eC))::(tI 7 aA)::(FY aA n_ ac aB ad dJ)) em aj fun dn c3=>?_
     rcases Y2 ((!eC)) with bk | bk
     ·
      rw [bk,XW] at ak
      have en:Kn _ _ ((tB 27 true)::(tI 7 aA)::(FY aA n_ ac aB ad dJ)) _:=(c3.setB 27 true (by rfl) bk).kp
      refine Rk 5 3 ((tI 30 dJ)::(tI 29 aA)::(28,.one (.c (.func (.func 66) #[.agg #[.slice d n_.yard.room.length g,.slice f n_.yard.lG.length j,.int .i64 n_.yard.broken,.slice l n_.lane.length m,.int .i64 n_.tm.a0,.int .i64 n_.tm.a1,.int .i64 n_.tm.a2,.int .i64 n_.tm.a3,.int .i64 n_.tm.a4,.int .i64 n_.tm.a5,.int .i64 n_.tm.a6,.int .i64 n_.tm.a7,.bool n_.broken.a0,.bool n_.broken.a1,.bool n_.broken.a2,.bool n_.broken.a3,.bool n_.broken.a4,.bool n_.broken.a5,.bool n_.broken.a6,.bool n_.broken.a7]] #[])))::(tB 27 true)::(tI 7 aA)::(FY aA n_ ac aB ad dJ)) en aj fun hz c4=>?_
      obtain⟨eH,jF,ak⟩:=Ao ak
      refine AD _ rfl (Al c4 (by kernel_rfl)) fun K hK=>?_
      refine D2 (.func (.func 66) #[.agg #[.slice d n_.yard.room.length g,.slice f n_.yard.lG.length j,.int .i64 n_.yard.broken,.slice l n_.lane.length m,.int .i64 n_.tm.a0,.int .i64 n_.tm.a1,.int .i64 n_.tm.a2,.int .i64 n_.tm.a3,.int .i64 n_.tm.a4,.int .i64 n_.tm.a5,.int .i64 n_.tm.a6,.int .i64 n_.tm.a7,.bool n_.broken.a0,.bool n_.broken.a1,.bool n_.broken.a2,.bool n_.broken.a3,.bool n_.broken.a4,.bool n_.broken.a5,.bool n_.broken.a6,.bool n_.broken.a7]] #[]) [.c (XR aA),.c (XR dJ)] _ c4 aj rfl rfl (by decide) (by rfl) (by rfl) rfl ((show X3 a9 (.func (.func 66) #[.agg #[.slice d n_.yard.room.length g,.slice f n_.yard.lG.length j,.int .i64 n_.yard.broken,.slice l n_.lane.length m,.int .i64 n_.tm.a0,.int .i64 n_.tm.a1,.int .i64 n_.tm.a2,.int .i64 n_.tm.a3,.int .i64 n_.tm.a4,.int .i64 n_.tm.a5,.int .i64 n_.tm.a6,.int .i64 n_.tm.a7,.bool n_.broken.a0,.bool n_.broken.a1,.bool n_.broken.a2,.bool n_.broken.a3,.bool n_.broken.a4,.bool n_.broken.a5,.bool n_.broken.a6,.bool n_.broken.a7]] #[]) (fun(y0:Int)(y1:Int)=>CD bi n_ y0 y1) from fun h2 w2 hle hh y0 y1 r H=>⟨66,_,_,rfl,fun _ _=>by kernel_rfl,J6 bi hh n_ (Rep.mono hle ((Ab (Ab (Af ap) (Ab (Af aq) Ad)) (Ab (Af av) (Ab (Ab Ad (Ab Ad (Ab Ad (Ab Ad (Ab Ad (Ab Ad (Ab Ad Ad))))))) (Ab Ag (Ab Ag (Ab Ag (Ab Ag (Ab Ag (Ab Ag (Ab Ag Ag)))))))))):rep a9 n_ _)) y0 y1 H⟩) _ _ (Ac.le_refl _) aj.has aA dJ _ jF) fun ii hl io d5 fz da=>?_
      obtain rfl:=d5
      refine⟨.one (.c (.bool eH)),rfl,fun gy (eo:Kn _ (CW b o p q) ((tB 31 eH)::(tI 30 dJ)::(tI 29 aA)::(28,.one (.c (.func (.func 66) #[.agg #[.slice d n_.yard.room.length g,.slice f n_.yard.lG.length j,.int .i64 n_.yard.broken,.slice l n_.lane.length m,.int .i64 n_.tm.a0,.int .i64 n_.tm.a1,.int .i64 n_.tm.a2,.int .i64 n_.tm.a3,.int .i64 n_.tm.a4,.int .i64 n_.tm.a5,.int .i64 n_.tm.a6,.int .i64 n_.tm.a7,.bool n_.broken.a0,.bool n_.broken.a1,.bool n_.broken.a2,.bool n_.broken.a3,.bool n_.broken.a4,.bool n_.broken.a5,.bool n_.broken.a6,.bool n_.broken.a7]] #[])))::(tB 27 true)::(tI 7 aA)::(FY aA n_ ac aB ad dJ)) _)=>hK _ _ ?_⟩
      refine Rk 9 1 ((tB 32 eH)::(tI 7 aA)::(FY aA n_ ac aB ad dJ)) eo da fun h0 ep=>?_
      refine wf ?_
      obtain rfl:=XZ ak
      exact XY _ ⟨_,rfl,ep.kp,da,fz⟩
     rw [bk,XV] at ak
     have er:Kn _ _ ((tB 27 false)::(tI 7 aA)::(FY aA n_ ac aB ad dJ)) _:=(c3.setB 27 false (by rfl) bk).kp
     refine Rk 5 5 ((tB 32 false)::(tI 7 aA)::(FY aA n_ ac aB ad dJ)) er aj fun h1 es=>?_
     refine wf ?_
     obtain rfl:=XZ ak
     exact XY _ ⟨_,rfl,es.kp,aj,Ac.le_refl _⟩
    rintro _ ip ⟨co,be,rfl,b8,bx,ca⟩
    replace bl:=bl.mono ca
    refine OV (dm) b8 (by kernel_rfl) (fun b2=>?_) (fun b2=>?_)
    ·
     rw [Ba b2] at af
     refine F9 (AI (by kernel_rfl) (Rk 0 2 ((tI 34 aA)::(tS 33 ac aB.length ad)::(tI 7 aA)::(KS aA n_ dJ)) b8 bx fun h3 et=>?_))
     refine wl fun K hK=>?_
     refine wS 3 1 [XR aA] et bx fun cv gz iq (eu:Kn _ (CW b o p q) ((tS 35 cv 1 1)::(tI 34 aA)::(tS 33 ac aB.length ad)::(tI 7 aA)::(KS aA n_ dJ)) _) db=>?_
     have b3:Ae be ([aA]:List Int) ([.int .i64 aA]:Ye):=⟨_,_,rfl,(Ad:rep be (aA:Int) _),rfl⟩
     refine hK _ _ ?_
     obtain⟨cD,jZ,af⟩:=Ao af
     obtain⟨ck,fw⟩:=Bj jZ
     refine wl fun K hK=>?_
     refine AS 1 8 1 _ (cD.length) _ ([.int .i64 aA]:Ye) eu db rfl rfl (by decide) rfl (by rfl) (by kernel_rfl) (by rfl) (by rfl) (Ae.len b3) (db.rowCell (i:=2) rfl) b3.one (by rw [ck]; simp <;> omega) (by rw [ck]; exact fw) (by decide) fun az a8 d2 g0 iu ef (ev:Kn _ (CW b o p q) ((tS 36 az cD.length a8)::(tS 35 cv 1 1)::(tI 34 aA)::(tS 33 ac aB.length ad)::(tI 7 aA)::(KS aA n_ dJ)) _) cd=>?_
     have eb:Ae be cD (ax++([.int .i64 aA]:Ye)):=by rw [ck]; exact Ae.append bl b3
     obtain rfl:d2=0:=Nat.le_zero.1 ef
     refine hK _ _ ?_
     refine Rk 4 1 ((tS 6 az cD.length a8)::(tI 7 aA)::(KS aA n_ dJ)) ev cd fun h4 ew=>?_
     refine wf (AI (by kernel_rfl) (Rk 0 1 ((tI 37 aA)::(tS 6 az cD.length a8)::(KS aA n_ dJ)) ew cd fun h5 c5=>?_))
     obtain⟨eJ,jV,af⟩:=Ao af
     obtain⟨gg,gj⟩:=BI jV
     refine Eg 1 (.one (.c (.ptr 2 (0+Yc aA*1)))) rfl (rfl) rfl (AZ (E:=4) c5 rfl (by kernel_rfl) (by kernel_rfl) (by rfl) (by rfl) gg gj) (c5.put (by decide) _) fun dq (ey:Kn _ (CW b o p q) ((tP 38 2 (0+Yc aA*1))::(tI 37 aA)::(tS 6 az cD.length a8)::(KS aA n_ dJ)) _)=>?_
     obtain⟨am,d0,af⟩:=Ao af
     obtain⟨hr,ht,gr⟩:=A1.setI_some d0
     refine wl fun K hK=>?_
     refine DS 2 (0+(aA:Int).toNat*1) (.c (.bool true)) [.bool am.a0,.bool am.a1,.bool am.a2,.bool am.a3,.bool am.a4,.bool am.a5,.bool am.a6,.bool am.a7] ey cd rfl rfl (by rfl) (by rfl) (by rfl) (by kernel_rfl) (by refine decide_eq_true ?_; show(0+(aA:Int).toNat*1)+1≤8; omega) (F7 (fun(y:Bool)=>([.bool y]:List SC)) 1 (fun _=>rfl) [] [] aC.toL am.toL (aA:Int).toNat true gr (show(aA:Int).toNat<8 by omega) rfl rfl rfl) fun iv ez dc=>hK _ _ ?_
     have e0:Kn _ _ ((tS 6 az cD.length a8)::(KS aA n_ dJ)) _:=ez.kp
     refine wf (AI (by kernel_rfl) (Rk 0 2 ((tI 20 (Ya (aA+1)))::(tS 6 az cD.length a8)::(tI 19 ((n_.yard.lG.length:Nat):Int))::(tI 5 dJ)::(tP 4 3 0)::DI) e0 dc fun h6 e1=>?_))
     refine wf ?_
     exact XY bi ⟨Y4 _,XY cD ⟨Ya (aA+1),am,az,a8,ax++([.int .i64 aA]:Ye),_,_,rfl,e1.kp,dc.cutRw 2,XU al ca,eb,af⟩⟩
    rw [Bb b2] at af
    refine TR (AI (by kernel_rfl) (Rk 0 2 ((tI 20 (Ya (aA+1)))::(tI 19 ((n_.yard.lG.length:Nat):Int))::(tS 6 ac aB.length ad)::(tI 5 dJ)::(tP 4 3 0)::DI) b8 bx fun h7 e2=>?_))
    refine wf ?_
    exact XY bi ⟨Y4 _,XY aB ⟨Ya (aA+1),aC,ac,ad,ax,_,_,rfl,e2.kp,bx,XU al ca,bl,af⟩⟩
   rw [b1,XV] at af
   refine W6 ?_
   obtain rfl:=XZ af
   exact XY ac ⟨ad,ax,_,_,rfl,b7.kp,aj,al,bl⟩
  rintro _ iw ⟨x,aa,cq,cm,bj,rfl,e3,dd,bt,ea⟩
  replace bc:=bc.mono bt
  refine F9 (AI (by kernel_rfl) (Rk 0 1 ((tS 40 x u.1.length aa)::(tS 6 x u.1.length aa)::(tI 5 dJ)::DI) e3 dd fun h8 e5=>?_))
  refine Ey 1 #[] #[.pointer (some ⟨b,0,none⟩)] e5 rfl rfl (rfl) rfl (by decide) (by rfl) (by rfl) (by rfl) (by rfl) fun g1 (e6:Kn _ (CW b o p q) ((41,.one (.c (.func (.func 68) #[] #[.pointer (some ⟨b,0,none⟩)])))::(tS 40 x u.1.length aa)::(tS 6 x u.1.length aa)::(tI 5 dJ)::DI) _)=>?_
  obtain⟨dI,iC,ai⟩:=Ao ai
  obtain⟨ha,hi,fx,gn⟩:=dd.lend0 [] [1] (by kernel_rfl) (by kernel_rfl) (by kernel_rfl) (by kernel_rfl)
  refine wl fun K hK=>?_
  refine HU [.c (Yb x u.1.length aa),.c (.func (.func 68) #[] #[.pointer (some ⟨b,0,none⟩)])] _ e6 rfl rfl (by decide) (by rfl) rfl (fun _ _=>by kernel_rfl) (E0 n u.1 ea (fun(y0:Int)(y1:Int)=>AR n y0 y1 n_) (show We bj (.func (.func 68) #[] #[.pointer (some ⟨b,0,none⟩)]) (fun(y0:Int)(y1:Int)=>AR n y0 y1 n_) from fun h2 w2 hle hh y0 y1 r H=>⟨68,_,_,rfl,fun _ _=>by kernel_rfl,Ia n hh y0 y1 n_ (bc.mono hle) H⟩) fx iC) fun ij dv d7=>?_
  obtain⟨cy,bn,bu,rfl,gd,b4,f5⟩:=d7
  have ce:=gn _ _ _ [⟨x,u.1.length,aa,3,1,bn,0⟩] bu rfl (Y7 rfl) (by kernel_rfl) f5
  replace ce:Ai _ _ (CW b o p q) [⟨Ui d n_ g f j l m,none⟩,⟨[Yb z s.1.length ab],some 22⟩,⟨WW u,some 82⟩,⟨J7 d n_ g f j l m,some 135⟩] [⟨z,s.1.length,ab,26,1,ag,0⟩,⟨x,u.1.length,aa,3,1,bn,0⟩] _:=ce
  refine⟨.tup [],rfl,fun cp (e7:Kn _ (CW b o p q) ((42,.tup [])::(41,.one (.c (.func (.func 68) #[] #[.pointer (some ⟨b,0,none⟩)])))::(tS 40 x u.1.length aa)::(tS 6 x u.1.length aa)::(tI 5 dJ)::DI) _)=>hK _ _ ?_⟩
  have dk:=gd.symm
  have e8:Kn 50 [(b,0),(o,0),(p,0),(q,0)] [(42,.tup []),(41,.one (.c (.func (.func 68) #[] #[.pointer (some ⟨b,0,none⟩)]))),(40,.one (.c (Yb x dI.length aa))),(6,.one (.c (Yb x dI.length aa))),(5,.one (.c (XR dJ))),(3,.one (.c (.ptr 2 0))),(2,.one (.c (.ptr 1 0))),(1,.one (.c (.ptr 0 0)))] cp:=by rw [← dk]; exact e7
  have de:Ai ar cy [(b,0),(o,0),(p,0),(q,0)] [⟨[.slice d n_.yard.room.length g,.slice f n_.yard.lG.length j,.int .i64 n_.yard.broken,.slice l n_.lane.length m,.int .i64 n_.tm.a0,.int .i64 n_.tm.a1,.int .i64 n_.tm.a2,.int .i64 n_.tm.a3,.int .i64 n_.tm.a4,.int .i64 n_.tm.a5,.int .i64 n_.tm.a6,.int .i64 n_.tm.a7,.bool n_.broken.a0,.bool n_.broken.a1,.bool n_.broken.a2,.bool n_.broken.a3,.bool n_.broken.a4,.bool n_.broken.a5,.bool n_.broken.a6,.bool n_.broken.a7],none⟩,⟨[.slice z s.1.length ab],some 22⟩,⟨[.bool u.2.a0,.bool u.2.a1,.bool u.2.a2,.bool u.2.a3,.bool u.2.a4,.bool u.2.a5,.bool u.2.a6,.bool u.2.a7],some 82⟩,⟨[.func (.func 66) #[.agg #[.slice d n_.yard.room.length g,.slice f n_.yard.lG.length j,.int .i64 n_.yard.broken,.slice l n_.lane.length m,.int .i64 n_.tm.a0,.int .i64 n_.tm.a1,.int .i64 n_.tm.a2,.int .i64 n_.tm.a3,.int .i64 n_.tm.a4,.int .i64 n_.tm.a5,.int .i64 n_.tm.a6,.int .i64 n_.tm.a7,.bool n_.broken.a0,.bool n_.broken.a1,.bool n_.broken.a2,.bool n_.broken.a3,.bool n_.broken.a4,.bool n_.broken.a5,.bool n_.broken.a6,.bool n_.broken.a7]] #[]],some 135⟩] [⟨z,s.1.length,ab,26,1,ag,0⟩,⟨x,dI.length,aa,3,1,bn,0⟩] dv:=by rw [← dk]; exact ce
  have e9:Kn _ _ [tS 6 x dI.length aa,tI 5 dJ,tP 3 2 0,tP 2 1 0] _:=e8.kp
  refine wf (F9 (AI (by kernel_rfl) (Rk 0 1 [tI 43 dJ,tS 6 x dI.length aa,tP 3 2 0,tP 2 1 0] e9 de fun h9 c6=>?_)))
  obtain⟨dW,jI,ai⟩:=Ao ai
  obtain⟨gh,gk⟩:=BI jI
  refine Eg 1 (.one (.c (.ptr 2 (0+Yc dJ*1)))) rfl (rfl) rfl (AZ (E:=4) c6 rfl (by kernel_rfl) (by kernel_rfl) (by rfl) (by rfl) gh gk) (c6.put (by decide) _) fun dr (fa:Kn _ (CW b o p q) [tP 44 2 (0+Yc dJ*1),tI 43 dJ,tS 6 x dI.length aa,tP 3 2 0,tP 2 1 0] _)=>?_
  obtain⟨ah,d1,ai⟩:=Ao ai
  obtain⟨hs,hu,gs⟩:=A1.setI_some d1
  refine wl fun K hK=>?_
  refine DS 2 (0+(dJ:Int).toNat*1) (.c (.bool true)) (WP ah) fa de rfl rfl (by rfl) (by rfl) (by rfl) (by kernel_rfl) (by refine decide_eq_true ?_; show(0+(dJ:Int).toNat*1)+1≤8; omega) (F7 (fun(y:Bool)=>([.bool y]:List SC)) 1 (fun _=>rfl) [] [] u.2.toL ah.toL (dJ:Int).toNat true gs (show(dJ:Int).toNat<8 by omega) rfl rfl rfl) fun g6 fb cf=>hK _ _ ?_
  have fd:Kn _ _ [tS 6 x dI.length aa,tP 2 1 0] _:=fb.kp
  refine wf (AI (by kernel_rfl) (Rk 0 2 [tS 46 x dI.length aa,tS 45 z s.1.length ab,tP 2 1 0] fd cf fun ia fe=>?_))
  obtain⟨bf,bv,go,cg⟩:=cf.settle (i:=1) rfl
  replace au:=au.mono (XU (XU bt bu) bv)
  replace b4:=b4.mono bv
  replace cg:Ai _ _ (CW b o p q) [⟨Ui d n_ g f j l m,none⟩,⟨[Yb z s.1.length ab],some 22⟩,⟨WP ah,some 82⟩,⟨J7 d n_ g f j l m,some 135⟩] [⟨z,s.1.length,ab,26,1,ag,0⟩,⟨x,dI.length,aa,3,1,bn,_⟩] _:=cg
  have gl:At bf x aa dI:=⟨_,b4,go,cf.rowCap (i:=1) rfl⟩
  refine wl fun K hK=>?_
  refine wS 26 1 [Yb x dI.length aa] fe cg fun cw g3 iy (ff:Kn _ (CW b o p q) [tS 47 cw 1 1,tS 46 x dI.length aa,tS 45 z s.1.length ab,tP 2 1 0] _) dg=>?_
  have b5:Ae bf ([dI]:List (List Int)) ([.slice x dI.length aa]:Ye):=⟨_,_,rfl,((Af gl):rep bf (dI:List Int) _),rfl⟩
  refine hK _ _ ?_
  obtain⟨fN,jE,ai⟩:=Ao ai
  obtain⟨cl,fy⟩:=Bj jE
  refine wl fun K hK=>?_
  refine AS 0 24 1 _ (fN.length) _ ([.slice x dI.length aa]:Ye) ff dg rfl rfl (by decide) rfl (by rfl) (by kernel_rfl) (by rfl) (by rfl) (Ae.len b5) (dg.rowCell (i:=2) rfl) b5.one (by rw [cl]; simp <;> omega) (by rw [cl]; exact fy) (by decide) fun bo bq d3 ds iz eg (fg:Kn _ (CW b o p q) [tS 48 bo fN.length bq,tS 47 cw 1 1,tS 46 x dI.length aa,tS 45 z s.1.length ab,tP 2 1 0] _) f6=>?_
  have ec:Ae bf fN (ag++([.slice x dI.length aa]:Ye)):=by rw [cl]; exact Ae.append au b5
  obtain rfl:d3=0:=Nat.le_zero.1 eg
  refine hK _ _ ?_
  refine wl fun K hK=>?_
  refine DT 1 0 (.c (Yb bo fN.length bq)) [Yb bo fN.length bq] fg f6 fun i0 fh dh=>hK _ _ ?_
  refine wf ?_
  obtain rfl:=XZ ai
  refine⟨dh.ext c9.loop,?_⟩
  rw [dl.eq]
  obtain⟨dw,f1,hd,f7⟩:=Ai.loopStep dh c9 aw
  exact⟨rfl,bf,XU bt (XU bu bv),dw,bo,bq,ag++([.slice x dI.length aa]:Ye),f1,(f7).cutRw 1,ec,XU bd (XU bt (XU bu bv))⟩
 intro g7 d8
 obtain⟨d9,_,eh⟩:=d8
 obtain⟨g9,an,ao,cr,c7,di,b6,hq⟩:=eh
 refine⟨di.ext c7.loop,?_⟩
 obtain⟨cu,c8,he,bz⟩:=Ai.loopStep di c7 { aw with state:=.exhausted }
 replace bz:Ai _ _ (CW b o p q) [⟨Ui d n_ g f j l m,none⟩,⟨[Yb an ae.1.length ao],some 22⟩,⟨[.bool ae.2.a0,.bool ae.2.a1,.bool ae.2.a2,.bool ae.2.a3,.bool ae.2.a4,.bool ae.2.a5,.bool ae.2.a6,.bool ae.2.a7],some 82⟩,⟨J7 d n_ g f j l m,some 135⟩] [⟨an,ae.1.length,ao,26,1,cr,0⟩] _:=bz
 refine XT (Aa (Rk 0 1 [tS 49 an ae.1.length ao,tP 2 1 0] b9 bz fun g5 fk=>?_))
 refine wl fun K hK=>?_
 refine DT 1 0 (.c (Yb an ae.1.length ao)) [Yb an ae.1.length ao] fk bz fun g8 fl dj=>hK _ _ ?_
 have fm:Kn _ _ [tP 2 1 0] _:=fl.kp
 refine wf (wp_ret ?_)
 obtain⟨cz,f0,gp,ch⟩:=dj.settle (i:=0) rfl
 replace b6:=b6.mono f0
 replace ch:Ai _ _ (CW b o p q) [⟨Ui d n_ g f j l m,none⟩,⟨[Yb an ae.1.length ao],some 22⟩,⟨[.bool ae.2.a0,.bool ae.2.a1,.bool ae.2.a2,.bool ae.2.a3,.bool ae.2.a4,.bool ae.2.a5,.bool ae.2.a6,.bool ae.2.a7],some 82⟩,⟨J7 d n_ g f j l m,some 135⟩] [⟨an,ae.1.length,ao,26,1,cr,_⟩] _:=ch
 have gm:At cz an ao ae.1:=⟨_,b6,gp,dj.rowCap (i:=0) rfl⟩
 obtain rfl:=XZ H
 exact OW (bs:=((ay).heap.size::([]:List Nat))) (.one (.c (Yb an ae.1.length ao))) fm ch c8.marks c8.of (by kernel_rfl) ⟨_,_,rfl,gm⟩
abbrev Ib (e)(cS:Cz×Int)(j f k g l):=([Yb e cS.1.yard.room.length j,Yb f cS.1.yard.lG.length k,XR cS.1.yard.broken,Yb g cS.1.lane.length l,XR cS.1.tm.a0,XR cS.1.tm.a1,XR cS.1.tm.a2,XR cS.1.tm.a3,XR cS.1.tm.a4,XR cS.1.tm.a5,XR cS.1.tm.a6,XR cS.1.tm.a7,.bool cS.1.broken.a0,.bool cS.1.broken.a1,.bool cS.1.broken.a2,.bool cS.1.broken.a3,.bool cS.1.broken.a4,.bool cS.1.broken.a5,.bool cS.1.broken.a6,.bool cS.1.broken.a7]:List SC)
theorem Pq (n:Nat) {h:Ac} {w:World} (hh:CK h w) (y:Am) {dQ:Ye} (eD:rep h y dQ) (lanes:List Int) {aU:Yd} {aV:Nat} (cU:At h aU aV lanes) (order:List Int) {aS:Yd} {aT:Nat} (dR:At h aS aT order) (broken:List Int) {aW:Yd} {aX:Nat} (dO:At h aW aX broken) {r:(List Int)×Int} (H:Ft n y lanes order broken=some r) :
  Calls Tryz.prog 15 #[.agg dQ.toArray,.slice aU lanes.length aV,.slice aS order.length aT,.slice aW broken.length aX] w (CP (fun h v=>∃ v0 v1,v=.tuple #[v0,v1]∧(∃ a c,v0=.slice a r.1.length c∧At h a c r.1)∧(v1=.int .i64 r.2)) h w):=by
 obtain⟨_,_,rfl,⟨m,q,rfl,ak⟩,⟨_,_,rfl,⟨o,s,rfl,al⟩,rfl⟩⟩:=eD
 refine enter 30 [.agg (Mh m y q o s),.c (Yb aU lanes.length aV),.c (Yb aS order.length aT),.c (Yb aW broken.length aX)] Tryz.func15 rfl rfl rfl rfl fun t hk=>?_
 have hm:=Ai.begin h w hh
 unfold Ft at H
 refine XT (Aa (wl fun K hK=>?_))
 refine wb (.agg (Mh m y q o s)) hk hm fun p b7 cv (ba:Kn _ [(p,0)] [tP 4 0 0,tA 0 (Mh m y q o s),tS 1 aU lanes.length aV,tS 2 aS order.length aT,tS 3 aW broken.length aX] _) ae=>hK _ _ ?_
 refine Rk 1 2 [tP 4 0 0,tS 1 aU lanes.length aV,tS 2 aS order.length aT,tS 3 aW broken.length aX] ba ae fun ce bb=>?_
 refine wf (XT (Aa (Rk 0 4 [tS 17 aW broken.length aX,tS 16 aS order.length aT,tS 15 aU lanes.length aV,tA 14 (Mh m y q o s)] bb ae fun cf bc=>?_)))
 obtain⟨cS,gW,H⟩:=Ao H
 refine wl fun K hK=>?_
 refine wc [.agg (Mh m y q o s),.c (Yb aU lanes.length aV),.c (Yb aS order.length aT),.c (Yb aW broken.length aX)] bc ae (Hd n ae.has y ((Ab (Af ak) (Ab (Af al) Ad)):rep h y _) lanes cU order dR broken dO gW) fun co a8 cr ax ap aq=>?_
 obtain⟨_,_,rfl,⟨_,rfl,⟨_,_,rfl,⟨_,_,rfl,⟨e,j,rfl,bw⟩,⟨_,_,rfl,⟨f,k,rfl,bx⟩,rfl⟩⟩,⟨_,_,rfl,⟨g,l,rfl,bz⟩,⟨_,_,rfl,⟨_,_,rfl,rfl,⟨_,_,rfl,rfl,⟨_,_,rfl,rfl,⟨_,_,rfl,rfl,⟨_,_,rfl,rfl,⟨_,_,rfl,rfl,⟨_,_,rfl,rfl,rfl⟩⟩⟩⟩⟩⟩⟩,⟨_,_,rfl,rfl,⟨_,_,rfl,rfl,⟨_,_,rfl,rfl,⟨_,_,rfl,rfl,⟨_,_,rfl,rfl,⟨_,_,rfl,rfl,⟨_,_,rfl,rfl,rfl⟩⟩⟩⟩⟩⟩⟩⟩⟩⟩⟩,rfl⟩:=ax
 refine⟨.tup [.agg (Ib e cS j f k g l),.c (XR cS.2)],rfl,fun b3 (bd:Kn _ [(p,0)] [(18,.tup [.agg (Ib e cS j f k g l),.c (XR cS.2)]),tS 17 aW broken.length aX,tS 16 aS order.length aT,tS 15 aU lanes.length aV,tA 14 (Mh m y q o s)] _)=>hK _ _ ?_⟩
 refine Rk 5 3 [tI 20 cS.2,tA 19 (Ib e cS j f k g l)] bd aq fun cg be=>?_
 refine wl fun K hK=>?_
 refine wa [Yb none 0 0,Yb none 0 0,XR 0,Yb none 0 0,XR 0,XR 0,XR 0,XR 0,XR 0,XR 0,XR 0,XR 0,.bool false,.bool false,.bool false,.bool false,.bool false,.bool false,.bool false,.bool false] be aq fun u b4 cs (bf:Kn _ [(p,0),(u,0)] [tP 10 1 0,tI 20 cS.2,tA 19 (Ib e cS j f k g l)] _) bu=>hK _ _ ?_
 refine wl fun K hK=>?_
 refine DT 1 0 (.agg (Ib e cS j f k g l)) (Ib e cS j f k g l) bf bu fun ct bg z=>hK _ _ ?_
 refine Rk 10 1 [tI 11 cS.2,tP 10 1 0] bg z fun ch bh=>?_
 refine wf (XT (XT (Aa (Rk 0 2 [tB 22 (cS.2 != 0),tI 11 cS.2,tP 10 1 0] bh z fun ci ah=>?_))))
 refine wf (wC ((cS.2 != 0)) ah (fun af=>?_) (fun af=>?_))
 ·
  rw [af,XW] at H
  refine XT (Aa (Rk 0 3 [tI 9 cS.2,tS 8 none 0 0] ah z fun cj bi=>?_))
  refine wf (wp_ret ?_)
  obtain rfl:=XZ H
  exact rt (.tup [.c (Yb none 0 0),.c (XR cS.2)]) bi z ⟨_,_,rfl,⟨_,_,rfl,At.nil⟩,rfl⟩
 rw [af,XV] at H
 refine wp_skip (XT (Aa (Rk 0 1 [tA 24 (Ib e cS j f k g l)] ah z fun ck bj=>?_)))
 obtain⟨eC,iD,H⟩:=Ao H
 refine wl fun K hK=>?_
 refine wc [.agg (Ib e cS j f k g l)] bj z (FN n z.has cS.1 ((Ab (Ab (Af bw) (Ab (Af bx) Ad)) (Ab (Af bz) (Ab (Ab Ad (Ab Ad (Ab Ad (Ab Ad (Ab Ad (Ab Ad (Ab Ad Ad))))))) (Ab Ag (Ab Ag (Ab Ag (Ab Ag (Ab Ag (Ab Ag (Ab Ag Ag)))))))))):rep a8 cS.1 _) iD) fun cp ca cu ay cb ar=>?_
 obtain⟨ab,ac,rfl,b0⟩:=ay
 refine⟨.one (.c (Yb ab eC.length ac)),rfl,fun b5 (bk:Kn _ [(p,0),(u,0)] [tS 25 ab eC.length ac,tA 24 (Ib e cS j f k g l)] _)=>hK _ _ ?_⟩
 obtain⟨cJ,gD,H⟩:=Ao H
 refine wl fun K hK=>?_
 refine ET [.c (Yb ab eC.length ac)] _ bk ar rfl rfl (by decide) (by rfl) rfl (fun _ _=>by kernel_rfl) (Hq n ar.has eC b0 gD) fun cq ad b9 cd az cc aa=>?_
 obtain⟨b,d,b8,rfl,rfl,a9⟩:=az
 replace aa:Ai _ _ [(p,0),(u,0)] [⟨Mh m y q o s,some 51⟩,⟨Ib e cS j f k g l,some 102⟩] [⟨b,cJ.length,d,3,1,b8,0⟩] _:=aa
 refine⟨.one (.c (Yb b cJ.length d)),rfl,fun b6 (bl:Kn _ [(p,0),(u,0)] [tS 26 b cJ.length d,tS 25 ab eC.length ac,tA 24 (Ib e cS j f k g l)] _)=>hK _ _ ?_⟩
 refine Rk 3 1 [tS 12 b cJ.length d] bl aa fun cl bm=>?_
 refine wf (XT (Aa (Rk 0 1 [tS 27 b cJ.length d,tS 12 b cJ.length d] bm aa fun cm bn=>?_)))
 obtain⟨x,aw,H⟩:=Ao H
 obtain⟨bs,av⟩:=Tw aw
 refine wl fun K hK=>?_
 refine W9 Tryz.sorts 0 bn aa rfl rfl (by decide) (by rfl) (fun _ _=>by kernel_rfl) rfl rfl rfl rfl a9 bs fun am an (bo:Kn _ [(p,0),(u,0)] [(28,.tup []),tS 27 b cJ.length d,tS 12 b cJ.length d] _) (bv:Ai _ _ [(p,0),(u,0)] [⟨Mh m y q o s,some 51⟩,⟨Ib e cS j f k g l,some 102⟩] [⟨b,cJ.length,d,3,1,List.map (Value.int .i64) (Gq cJ),0⟩] _)=>?_
 have ag:Ae ad x (List.map (Value.int .i64) (Gq cJ)):=by rw [av]; exact Md _ _
 have au:cJ.length=x.length:=by rw [av,Qp]
 have bp:Kn 30 [(p,0),(u,0)] [(28,.tup []),(27,.one (.c (Yb b x.length d))),(12,.one (.c (Yb b x.length d)))] am:=by rw [← au]; exact bo
 have ai:Ai ⟨w,h,BF⟩ ad [(p,0),(u,0)] [⟨[Yb m y.room.length q,Yb o y.lG.length s,XR y.broken],some 51⟩,⟨[Yb e cS.1.yard.room.length j,Yb f cS.1.yard.lG.length k,XR cS.1.yard.broken,Yb g cS.1.lane.length l,XR cS.1.tm.a0,XR cS.1.tm.a1,XR cS.1.tm.a2,XR cS.1.tm.a3,XR cS.1.tm.a4,XR cS.1.tm.a5,XR cS.1.tm.a6,XR cS.1.tm.a7,.bool cS.1.broken.a0,.bool cS.1.broken.a1,.bool cS.1.broken.a2,.bool cS.1.broken.a3,.bool cS.1.broken.a4,.bool cS.1.broken.a5,.bool cS.1.broken.a6,.bool cS.1.broken.a7],some 102⟩] [⟨b,x.length,d,3,1,List.map (Value.int .i64) (Gq cJ),0⟩] an:=by rw [← au]; exact bv
 refine hK _ _ ?_
 have bq:Kn _ _ [tS 12 b x.length d] _:=bp.kp
 refine wf (XT (Aa (Rk 0 3 [tI 9 0,tS 8 b x.length d] bq ai fun cn br=>?_)))
 refine wf (wp_ret ?_)
 obtain⟨ao,bt,b2,aj⟩:=ai.settle (i:=0) rfl
 replace ag:=ag.mono bt
 replace aj:Ai _ _ [(p,0),(u,0)] [⟨Mh m y q o s,some 51⟩,⟨Ib e cS j f k g l,some 102⟩] [⟨b,x.length,d,3,1,List.map (Value.int .i64) (Gq cJ),_⟩] _:=aj
 have b1:At ao b d x:=⟨_,ag,b2,ai.rowCap (i:=0) rfl⟩
 obtain rfl:=XZ H
 exact rt (.tup [.c (Yb b x.length d),.c (XR 0)]) br aj ⟨_,_,rfl,⟨_,_,rfl,b1⟩,rfl⟩
theorem NU (n:Nat) {h:Ac} {w:World} (hh:CK h w) (y:Am) {dQ:Ye} (eD:rep h y dQ) (lanes:List Int) {aU:Yd} {aV:Nat} (cU:At h aU aV lanes) (order:List Int) {aS:Yd} {aT:Nat} (dR:At h aS aT order) (broken:List Int) {aW:Yd} {aX:Nat} (dO:At h aW aX broken) {r:(List (List Int))×Int} (H:F0 n y lanes order broken=some r) :
  Calls Tryz.prog 16 #[.agg dQ.toArray,.slice aU lanes.length aV,.slice aS order.length aT,.slice aW broken.length aX] w (CP (fun h v=>∃ v0 v1,v=.tuple #[v0,v1]∧(∃ a c,v0=.slice a r.1.length c∧At h a c r.1)∧(v1=.int .i64 r.2)) h w):=by
 obtain⟨_,_,rfl,⟨j,l,rfl,aa⟩,⟨_,_,rfl,⟨k,m,rfl,ab⟩,rfl⟩⟩:=eD
 refine enter 25 [.agg (Mh j y l k m),.c (Yb aU lanes.length aV),.c (Yb aS order.length aT),.c (Yb aW broken.length aX)] Tryz.func16 rfl rfl rfl rfl fun t hk=>?_
 have hm:=Ai.begin h w hh
 unfold F0 at H
 refine XT (Aa (wl fun K hK=>?_))
 refine wb (.agg (Mh j y l k m)) hk hm fun q bd bu (aj:Kn _ [(q,0)] [tP 4 0 0,tA 0 (Mh j y l k m),tS 1 aU lanes.length aV,tS 2 aS order.length aT,tS 3 aW broken.length aX] _) u=>hK _ _ ?_
 refine Rk 1 2 [tP 4 0 0,tS 1 aU lanes.length aV,tS 2 aS order.length aT,tS 3 aW broken.length aX] aj u fun bg ak=>?_
 refine wf (XT (Aa (Rk 0 4 [tS 16 aW broken.length aX,tS 15 aS order.length aT,tS 14 aU lanes.length aV,tA 13 (Mh j y l k m)] ak u fun bh al=>?_)))
 obtain⟨dX,jW,H⟩:=Ao H
 refine wl fun K hK=>?_
 refine wc [.agg (Mh j y l k m),.c (Yb aU lanes.length aV),.c (Yb aS order.length aT),.c (Yb aW broken.length aX)] al u (Hd n u.has y ((Ab (Af aa) (Ab (Af ab) Ad)):rep h y _) lanes cU order dR broken dO jW) fun bo ai bq ag ad ae=>?_
 obtain⟨_,_,rfl,⟨_,rfl,⟨_,_,rfl,⟨_,_,rfl,⟨b,f,rfl,ay⟩,⟨_,_,rfl,⟨d,g,rfl,az⟩,rfl⟩⟩,⟨_,_,rfl,⟨e,i,rfl,a8⟩,⟨_,_,rfl,⟨_,_,rfl,rfl,⟨_,_,rfl,rfl,⟨_,_,rfl,rfl,⟨_,_,rfl,rfl,⟨_,_,rfl,rfl,⟨_,_,rfl,rfl,⟨_,_,rfl,rfl,rfl⟩⟩⟩⟩⟩⟩⟩,⟨_,_,rfl,rfl,⟨_,_,rfl,rfl,⟨_,_,rfl,rfl,⟨_,_,rfl,rfl,⟨_,_,rfl,rfl,⟨_,_,rfl,rfl,⟨_,_,rfl,rfl,rfl⟩⟩⟩⟩⟩⟩⟩⟩⟩⟩⟩,rfl⟩:=ag
 refine⟨.tup [.agg (Ib b dX f d g e i),.c (XR dX.2)],rfl,fun ba (am:Kn _ [(q,0)] [(17,.tup [.agg (Ib b dX f d g e i),.c (XR dX.2)]),tS 16 aW broken.length aX,tS 15 aS order.length aT,tS 14 aU lanes.length aV,tA 13 (Mh j y l k m)] _)=>hK _ _ ?_⟩
 refine Rk 5 3 [tI 19 dX.2,tA 18 (Ib b dX f d g e i)] am ae fun bi an=>?_
 refine wl fun K hK=>?_
 refine wa [Yb none 0 0,Yb none 0 0,XR 0,Yb none 0 0,XR 0,XR 0,XR 0,XR 0,XR 0,XR 0,XR 0,XR 0,.bool false,.bool false,.bool false,.bool false,.bool false,.bool false,.bool false,.bool false] an ae fun ac bb br (ao:Kn _ [(q,0),(ac,0)] [tP 10 1 0,tI 19 dX.2,tA 18 (Ib b dX f d g e i)] _) ax=>hK _ _ ?_
 refine wl fun K hK=>?_
 refine DT 1 0 (.agg (Ib b dX f d g e i)) (Ib b dX f d g e i) ao ax fun bs ap o=>hK _ _ ?_
 refine Rk 10 1 [tI 11 dX.2,tP 10 1 0] ap o fun bj aq=>?_
 refine wf (XT (XT (Aa (Rk 0 2 [tB 21 (dX.2 != 0),tI 11 dX.2,tP 10 1 0] aq o fun bk z=>?_))))
 refine wf (wC ((dX.2 != 0)) z (fun x=>?_) (fun x=>?_))
 ·
  rw [x,XW] at H
  refine XT (Aa (Rk 0 3 [tI 9 dX.2,tS 8 none 0 0] z o fun bl ar=>?_))
  refine wf (wp_ret ?_)
  obtain rfl:=XZ H
  exact rt (.tup [.c (Yb none 0 0),.c (XR dX.2)]) ar o ⟨_,_,rfl,⟨_,_,rfl,At.nil⟩,rfl⟩
 rw [x,XV] at H
 refine wp_skip (XT (Aa (Rk 0 1 [tA 23 (Ib b dX f d g e i)] z o fun bm au=>?_)))
 obtain⟨dA,gV,H⟩:=Ao H
 refine wl fun K hK=>?_
 refine wc [.agg (Ib b dX f d g e i)] au o (FN n o.has dX.1 ((Ab (Ab (Af ay) (Ab (Af az) Ad)) (Ab (Af a8) (Ab (Ab Ad (Ab Ad (Ab Ad (Ab Ad (Ab Ad (Ab Ad (Ab Ad Ad))))))) (Ab Ag (Ab Ag (Ab Ag (Ab Ag (Ab Ag (Ab Ag (Ab Ag Ag)))))))))):rep ai dX.1 _) gV) fun bp be bt ah bf af=>?_
 obtain⟨p,s,rfl,a9⟩:=ah
 refine⟨.one (.c (Yb p dA.length s)),rfl,fun bc (av:Kn _ [(q,0),(ac,0)] [tS 24 p dA.length s,tA 23 (Ib b dX f d g e i)] _)=>hK _ _ ?_⟩
 refine Rk 2 2 [tI 9 0,tS 8 p dA.length s] av af fun bn aw=>?_
 refine wf (wp_ret ?_)
 obtain rfl:=XZ H
 exact rt (.tup [.c (Yb p dA.length s),.c (XR 0)]) aw af ⟨_,_,rfl,⟨_,_,rfl,a9⟩,rfl⟩
end Go.Proofs.YtinminkmefljbaaGreat
