/- Each call computes its plain function. -/
import Derived.Test.YtinminkmefljbaaGreatProg
import Derived.Test.YtinminkmefljbaaGreattcWA
set_option linter.all false
namespace Go.Proofs.YtinminkmefljbaaGreat
open Go Go.RowKit
set_option maxRecDepth 100000
set_option maxHeartbeats 4000000
open Rep (rep)
open KRep (kv)
open VRep (rv)
theorem PL (n:Nat) {h:Ac} {w:World} (hh:CK h w) (l:List (List Int)) {bK:Yd} {bL:Nat} (dP:At h bK bL l) {r:Bool} (H:Iq n l=some r) :
  Calls Tryz.prog 17 #[.slice bK l.length bL] w (CP (fun h v=>v=.bool r) h w):=by
 refine enter 23 [.c (Yb bK l.length bL)] Tryz.func17 rfl rfl rfl rfl fun t hk=>?_
 have hm:=Ai.begin h w hh
 unfold Iq at H
 refine XT (Aa (Rk 0 1 [tS 0 bK l.length bL] hk hm fun bf au=>?_))
 refine wf (XT (XT (Aa (Rk 0 1 [tI 3 0,tS 0 bK l.length bL] au hm fun bh a0=>?_))))
 refine wf ?_
 obtain⟨aj,af,H⟩:=Ao H
 refine Ar (fun a' w'=>∃ (al:Unit)(ad:Array Value)(m:Ac),a' = ⟨ad,[]⟩∧Kn 23 [] [tS 0 bK l.length bL] ad∧Ai ⟨w,h,BF⟩ m [] [] [] w'∧Ac.le h m∧aj=.go al) ?_ ?_
 ·
  refine wp_block ?_
  refine Av (fun ba a' w'=>∃ (aB:Int)(ab:Array Value)(i:Ac),a' = ⟨ab,[]⟩∧Kn 23 [] [tI 3 aB,tS 0 bK l.length bL] ab∧Ai ⟨w,h,BF⟩ i [] [] [] w'∧Ac.le h i∧Dn ba l aB=some aj) n ?_ ?_
  ·
   exact XY 0 ⟨_,_,rfl,a0.kp,hm,Ac.le_refl _,af⟩
  rintro aa _ bo ⟨aB,ab,i,rfl,ar,e,x,a⟩
  clear af
  obtain _ | aa:=aa
  ·
   rw [Dn] at a; cases a
  rw [Dn] at a
  replace dP:=dP.mono x
  refine XT (XT ?_)
  obtain⟨ai,g,a⟩:=Ao a
  refine Ar (fun a' w'=>∃ (ac:Array Value)(k:Ac),a' = ⟨ac,[]⟩∧Kn 23 [] [tI 3 aB,tS 0 bK l.length bL,tB 11 ai] ac∧Ai ⟨w,h,BF⟩ k [] [] [] w'∧Ac.le i k) ?_ ?_
  ·
   refine Aa (Rk 0 5 [tB 8 (decide (aB<((l.length:Nat):Int))),tI 3 aB,tS 0 bK l.length bL] ar e fun am ag=>?_)
   rcases Y2 (decide (aB<((l.length:Nat):Int))) with d | d
   ·
    rw [d,XW] at g
    have av:Kn _ _ [tB 8 true,tI 3 aB,tS 0 bK l.length bL] _:=(ag.setB 8 true (by rfl) d).kp
    refine Rk 5 3 [tB 11 (decide (aB<16)),tI 3 aB,tS 0 bK l.length bL] av e fun bg aw=>?_
    refine wf ?_
    obtain rfl:=XZ g
    exact XY _ ⟨_,rfl,aw.kp,e,Ac.le_refl _⟩
   rw [d,XV] at g
   have ax:Kn _ _ [tB 8 false,tI 3 aB,tS 0 bK l.length bL] _:=(ag.setB 8 false (by rfl) d).kp
   refine Rk 5 3 [tB 11 false,tI 3 aB,tS 0 bK l.length bL] ax e fun bi ay=>?_
   refine wf ?_
   obtain rfl:=XZ g
   exact XY _ ⟨_,rfl,ay.kp,e,Ac.le_refl _⟩
  rintro _ bp ⟨ac,k,rfl,s,z,y⟩
  replace dP:=dP.mono y
  refine wC (ai) s (fun p=>?_) (fun p=>?_)
  ·
   rw [Ba p] at a
   refine wp_skip (XT (wp_block (XT (Aa (Rk 0 2 [tI 15 aB,tS 14 bK l.length bL,tI 3 aB,tS 0 bK l.length bL] s z fun bj az=>?_)))))
   obtain⟨cT,fT,a⟩:=Ao a
   obtain⟨a6,a7,a9⟩:=Aj fT
   obtain⟨ae,ak,bc,ap,a8,aq⟩:=dP.get (by decide) a9
   obtain⟨an,ao,rfl,be⟩:=a8
   have f:=z.addPlc (b:=ae) (o:=ak+Yc aB*1) (cs:=[Yb an cT.length ao]) (fun j c hj=>aq j _ (Ak hj)) rfl (by kernel_rfl) (by kernel_rfl)
   refine A9 2 (aB) rfl rfl (rfl) rfl (by decide) az (by rfl) (by rfl) (by rfl) ap (by rfl) a6 a7 (by kernel_rfl) fun bb (a1:Kn _ [(ae,ak+Yc aB*1)] [tP 16 0 0,tI 15 aB,tS 14 bK l.length bL,tI 3 aB,tS 0 bK l.length bL] _)=>?_
   refine Rk 3 3 [tB 19 (decide (((cT.length:Nat):Int)>15)),tI 3 aB,tS 0 bK l.length bL] a1 f fun bk u=>?_
   refine wf (wC (decide (((cT.length:Nat):Int)>15)) u (fun q=>?_) (fun q=>?_))
   ·
    rw [q,XW] at a
    refine XT (Aa (Rk 0 1 [tB 2 false] u f fun bl a2=>?_))
    refine wf (wp_ret ?_)
    obtain rfl:=XZ a
    obtain rfl:=XZ H
    exact rt (.one (.c (.bool false))) a2 f rfl
   rw [q,XV] at a
   refine wp_skip (Aa (Rk 0 3 [tI 3 (Ya (aB+1)),tS 0 bK l.length bL] u f fun bm a3=>?_))
   refine wf ?_
   exact XY aa ⟨Y4 _,XY (Ya (aB+1)) ⟨_,_,rfl,(a3.keep [3,0] (by rfl)).cut 0 (by kernel_rfl),f.cutPl 0 (by kernel_rfl),XU x y,a⟩⟩
  rw [Bb p] at a
  refine wp_exit ?_
  obtain rfl:=XZ a
  exact XY () ⟨_,_,rfl,s.kp,z,XU x y,rfl⟩
 rintro _ bq ⟨al,ad,m,rfl,a4,ah,bd,rfl⟩
 rw [Ex.bind_go] at H
 refine XT (Aa (Rk 0 4 [tB 2 (decide (((l.length:Nat):Int)≤15))] a4 ah fun bn a5=>?_))
 refine wf (wp_ret ?_)
 obtain rfl:=XZ H
 exact rt (.one (.c (.bool (decide (((l.length:Nat):Int)≤15))))) a5 ah rfl
theorem Rs (n:Nat) {h:Ac} {w:World} (hh:CK h w) (t_:An) {cN:Ye} (dL:rep h t_ cN) {r:Bool} (H:HP n t_=some r) :
  Calls Tryz.prog 4 #[.agg cN.toArray] w (CP (fun h v=>v=.bool r) h w):=by
 obtain⟨_,_,rfl,rfl,⟨_,_,rfl,rfl,⟨_,_,rfl,⟨a,b,rfl,aa⟩,⟨i,j,rfl,af⟩⟩⟩⟩:=dL
 refine enter 12 [.agg [XR t_.places,XR t_.layover,Yb a t_.empty.length b,Yb i t_.trips.length j]] Tryz.func4 rfl rfl rfl rfl fun t hk=>?_
 have hm:=Ai.begin h w hh
 unfold HP at H
 refine XT (Aa (wl fun K hK=>?_))
 refine wb (.agg [XR t_.places,XR t_.layover,Yb a t_.empty.length b,Yb i t_.trips.length j]) hk hm fun f ac am (o:Kn _ [(f,0)] [tP 1 0 0,tA 0 [XR t_.places,XR t_.layover,Yb a t_.empty.length b,Yb i t_.trips.length j]] _) g=>hK _ _ ?_
 refine Rk 1 1 [tP 1 0 0] o g fun ag p=>?_
 refine wf (XT (Aa (Rk 0 2 [tS 4 a t_.empty.length b,tP 1 0 0] p g fun ah q=>?_)))
 obtain⟨x5,ex5,H⟩:=Ao H
 refine wl fun K hK=>?_
 refine wc [.c (Yb a t_.empty.length b)] q g (PL n g.has t_.empty aa ex5) fun ak ad al m ae e=>?_
 obtain rfl:=m
 refine⟨.one (.c (.bool x5)),rfl,fun ab (s:Kn _ [(f,0)] [tB 5 x5,tS 4 a t_.empty.length b,tP 1 0 0] _)=>hK _ _ ?_⟩
 refine Rk 3 1 [tB 6 x5,tP 1 0 0] s e fun l k=>?_
 rcases Y2 (x5) with d | d
 ·
  rw [Ba d] at H
  have u:Kn _ _ [tB 6 true,tP 1 0 0] _:=(k.setB 6 true (by rfl) d).kp
  refine Rk 4 6 [tB 2 (decide (((t_.trips.length:Nat):Int)≤15))] u e fun ai x=>?_
  refine wf (wp_ret ?_)
  obtain rfl:=XZ H
  exact rt (.one (.c (.bool (decide (((t_.trips.length:Nat):Int)≤15))))) x e rfl
 rw [Bb d] at H
 have y:Kn _ _ [tB 6 false,tP 1 0 0] _:=(k.setB 6 false (by rfl) d).kp
 refine Rk 4 6 [tB 2 false] y e fun aj z=>?_
 refine wf (wp_ret ?_)
 obtain rfl:=XZ H
 exact rt (.one (.c (.bool false))) z e rfl
theorem DJ (n:Nat) {h:Ac} {w:World} (hh:CK h w) (n_:Int) (low:Int) (high:Int) {r:Bool} (H:E8 n n_ low high=some r) :
  Calls Tryz.prog 18 #[.int .i64 n_,.int .i64 low,.int .i64 high] w (CP (fun h v=>v=.bool r) h w):=by
 refine enter 15 [.c (XR n_),.c (XR low),.c (XR high)] Tryz.func18 rfl rfl rfl rfl fun t hk=>?_
 have hm:=Ai.begin h w hh
 unfold E8 at H
 refine XT (Aa (Rk 0 1 [tI 0 n_,tI 1 low,tI 2 high] hk hm fun k f=>?_))
 refine wf (XT (Aa (Rk 0 4 [tB 10 (decide (n_≥low)),tI 0 n_,tI 2 high] f hm fun d b=>?_)))
 rcases Y2 (decide (n_≥low)) with a | a
 ·
  rw [a,XW] at H
  have g:Kn _ _ [tB 10 true,tI 0 n_,tI 2 high] _:=(b.setB 10 true (by rfl) a).kp
  refine Rk 4 5 [tB 6 (decide (n_≤high))] g hm fun m i=>?_
  refine wf (wp_ret ?_)
  obtain rfl:=XZ H
  exact rt (.one (.c (.bool (decide (n_≤high))))) i hm rfl
 rw [a,XV] at H
 have j:Kn _ _ [tB 10 false,tI 0 n_,tI 2 high] _:=(b.setB 10 false (by rfl) a).kp
 refine Rk 4 5 [tB 6 false] j hm fun l e=>?_
 refine wf (wp_ret ?_)
 obtain rfl:=XZ H
 exact rt (.one (.c (.bool false))) e hm rfl
abbrev KX (bB):=([tI 5 bB,tP 1 0 0]:TM)
abbrev G6 (aB):=([tI 3 aB,tP 1 0 0]:TM)
abbrev GL (bB):=((tP 6 2 0)::(KX bB):TM)
theorem PM (n:Nat) {h:Ac} {w:World} (hh:CK h w) (t_:An) {cN:Ye} (dL:rep h t_ cN) {r:Int} (H:GU n t_=some r) :
  Calls Tryz.prog 5 #[.agg cN.toArray] w (CP (fun h v=>v=.int .i64 r) h w):=by
 obtain⟨_,_,rfl,rfl,⟨_,_,rfl,rfl,⟨_,_,rfl,⟨k,l,rfl,e⟩,⟨p,q,rfl,f⟩⟩⟩⟩:=dL
 refine enter 124 [.agg (NW t_ k l p q)] Tryz.func5 rfl rfl rfl rfl fun t hk=>?_
 have hm:=Ai.begin h w hh
 unfold GU at H
 refine XT (Aa (wl fun K hK=>?_))
 refine wb (.agg (NW t_ k l p q)) hk hm fun a ia k0 (er:Kn _ [(a,0)] [tP 1 0 0,tA 0 (NW t_ k l p q)] _) ab=>hK _ _ ?_
 refine Rk 1 1 [tP 1 0 0] er ab fun iy ex=>?_
 refine wf (XT (XT (Aa (Rk 0 4 [tB 10 (decide (((t_.trips.length:Nat):Int)>12)),tP 1 0 0] ex ab fun i0 bw=>?_))))
 refine wf (wC (decide (((t_.trips.length:Nat):Int)>12)) bw (fun bo=>?_) (fun bo=>?_))
 ·
  rw [bo,XW] at H
  refine XT (Aa (Rk 0 1 [tI 2 3] bw ab fun i5 e4=>?_))
  refine wf (wp_ret ?_)
  obtain rfl:=XZ H
  exact rt (.one (.c (XR 3))) e4 ab rfl
 rw [bo,XV] at H
 refine wp_skip (XT (XT ?_))
 obtain⟨dp,x,H⟩:=Ao H
 refine Ar (fun a' w'=>∃ (cg:Array Value)(ak:Ac),a' = ⟨cg,[]⟩∧Kn 124 [(a,0)] [tP 1 0 0,tB 28 dp] cg∧Ai ⟨w,h,BF⟩ ak [(a,0)] [⟨NW t_ k l p q,some 25⟩] [] w'∧Ac.le h ak) ?_ ?_
 ·
  refine Aa (Rk 0 2 [tI 12 t_.places,tP 1 0 0] bw ab fun jc ff=>?_)
  obtain⟨cC,fY,x⟩:=Ao x
  refine wl fun K hK=>?_
  refine wc [.c (XR t_.places),.c (XR 1),.c (XR 6)] ff ab (DJ n ab.has t_.places 1 6 fY) fun ka ik kn d7 ax ai=>?_
  obtain rfl:=d7
  refine⟨.one (.c (.bool cC)),rfl,fun h4 (fw:Kn _ [(a,0)] [tB 13 cC,tI 12 t_.places,tP 1 0 0] _)=>hK _ _ ?_⟩
  refine Rk 3 2 [tB 15 (!cC),tP 1 0 0] fw ai fun d1 c4=>?_
  rcases Y2 ((!cC)) with ar | ar
  ·
   rw [ar,XW] at x
   have f6:Kn _ _ [tB 15 true,tP 1 0 0] _:=(c4.setB 15 true (by rfl) ar).kp
   refine Rk 5 13 [tB 28 true,tP 1 0 0] f6 ai fun jw gc=>?_
   refine wf ?_
   obtain rfl:=XZ x
   exact XY _ ⟨_,rfl,gc.kp,ai,ax⟩
  rw [ar,XV] at x
  have gh:Kn _ _ [tB 15 false,tP 1 0 0] _:=(c4.setB 15 false (by rfl) ar).kp
  refine Rk 5 2 [tI 17 t_.layover,tB 15 false,tP 1 0 0] gh ai fun j2 db=>?_
  obtain⟨cS,gW,x⟩:=Ao x
  refine AD _ rfl (Al db (by kernel_rfl)) fun K hK=>?_
  refine wc [.c (XR t_.layover),.c (XR 0),.c (XR 600)] db ai (DJ n ai.has t_.layover 0 600 gW) fun kg ir kx ed de a0=>?_
  obtain rfl:=ed
  refine⟨.one (.c (.bool cS)),rfl,fun h9 (gj:Kn _ [(a,0)] [tB 18 cS,tI 17 t_.layover,tB 15 false,tP 1 0 0] _)=>hK _ _ ?_⟩
  refine Rk 8 3 [tB 21 (!cS),tP 1 0 0] gj a0 fun d5 dc=>?_
  rcases Y2 ((!cS)) with aw | aw
  ·
   rw [aw,XW] at x
   have gk:Kn _ _ [tB 21 true,tP 1 0 0] _:=(dc.setB 21 true (by rfl) aw).kp
   refine Rk 11 7 [tB 28 true,tP 1 0 0] gk a0 fun j3 gl=>?_
   refine wf ?_
   obtain rfl:=XZ x
   exact XY _ ⟨_,rfl,gl.kp,a0,XU ax de⟩
  rw [aw,XV] at x
  have gm:Kn _ _ [tB 21 false,tP 1 0 0] _:=(dc.setB 21 false (by rfl) aw).kp
  refine Rk 11 7 [tB 28 (((t_.empty.length:Nat):Int) != t_.places),tP 1 0 0] gm a0 fun j4 gn=>?_
  refine wf ?_
  obtain rfl:=XZ x
  exact XY _ ⟨_,rfl,gn.kp,a0,XU ax de⟩
 rintro _ ky ⟨cg,ak,rfl,b2,bb,df⟩
 replace e:=e.mono df
 replace f:=f.mono df
 refine wC (dp) b2 (fun bt=>?_) (fun bt=>?_)
 ·
  rw [Ba bt] at H
  refine XT (Aa (Rk 0 1 [tI 2 1] b2 bb fun j5 gp=>?_))
  refine wf (wp_ret ?_)
  obtain rfl:=XZ H
  exact rt (.one (.c (XR 1))) gp bb rfl
 rw [Bb bt] at H
 refine wp_skip (XT (XT (Aa (Rk 0 1 [tI 3 0,tP 1 0 0] b2 bb fun j6 gq=>?_))))
 refine wf ?_
 obtain⟨dr,cr,H⟩:=Ao H
 refine Ar (fun a' w'=>∃ (dw:Unit)(cj:Array Value)(al:Ac),a' = ⟨cj,[]⟩∧Kn 124 [(a,0)] [tP 1 0 0] cj∧Ai ⟨w,h,BF⟩ al [(a,0)] [⟨NW t_ k l p q,some 25⟩] [] w'∧Ac.le ak al∧dr=.go dw) ?_ ?_
 ·
  refine wp_block ?_
  refine Av (fun hv a' w'=>∃ (aB:Int)(ck:Array Value)(a4:Ac),a' = ⟨ck,[]⟩∧Kn 124 [(a,0)] (G6 aB) ck∧Ai ⟨w,h,BF⟩ a4 [(a,0)] [⟨NW t_ k l p q,some 25⟩] [] w'∧Ac.le ak a4∧Dq hv t_ aB=some dr) n ?_ ?_
  ·
   exact XY 0 ⟨_,_,rfl,gq.kp,bb,Ac.le_refl _,cr⟩
  rintro bd _ kz ⟨aB,ck,a4,rfl,gr,af,a7,u⟩
  clear cr
  obtain _ | bd:=bd
  ·
   rw [Dq] at u; cases u
  rw [Dq] at u
  replace e:=e.mono a7
  refine XT (XT (Aa (Rk 0 4 ((tB 32 (decide (aB<t_.places)))::(G6 aB)) gr af fun j7 b3=>?_)))
  refine wf (wC (decide (aB<t_.places)) b3 (fun bu=>?_) (fun bu=>?_))
  ·
   rw [bu,XW] at u
   refine wp_skip (XT (wp_block (XT (XT ?_))))
   obtain⟨ds,z,u⟩:=Ao u
   refine Ar (fun a' w'=>∃ (cl:Array Value)(am:Ac),a' = ⟨cl,[]⟩∧Kn 124 [(a,0)] [tI 3 aB,tP 1 0 0,tB 54 ds] cl∧Ai ⟨w,h,BF⟩ am [(a,0)] [⟨NW t_ k l p q,some 25⟩] [] w'∧Ac.le a4 am) ?_ ?_
   ·
    refine Au (by kernel_rfl) ?_
    replace af:=af.drew
    refine Ax [] [(a,0)] [⟨NW t_ k l p q,some 25⟩] ?_
    refine Dr [0,1,2] [2,1,0] ((tI 37 aB)::(tS 36 k t_.empty.length l)::(G6 aB)) b3 af fun j8 gs=>?_
    obtain⟨eJ,jV,z⟩:=Ao z
    obtain⟨g3,g9,hs⟩:=Aj jV
    obtain⟨ag,aj,ii,ej,hl,ep⟩:=e.get (by decide) hs
    obtain⟨cm,co,rfl,iv⟩:=hl
    have ah:=af.addPlc (b:=ag) (o:=aj+Yc aB*1) (cs:=[Yb cm eJ.length co]) (fun j c hj=>ep j _ (Ak hj)) rfl (by kernel_rfl) (by kernel_rfl)
    refine A5 3 (aB) [Yb cm eJ.length co] (fun _ _ _ _ _ h=>h) rfl rfl (rfl) rfl (by decide) (by kernel_rfl) (by kernel_rfl) gs af.plOk (by rfl) (by rfl) (by rfl) ej (by rfl) g3 g9 (by kernel_rfl) fun hw (es:Kn _ [(a,0),(ag,aj+Yc aB*1)] ((tP 38 1 0)::(tI 37 aB)::(tS 36 k t_.empty.length l)::(G6 aB)) _)=>?_
    refine Dr [4,5,6,7,8,9] (dn 9) ((tB 44 (((eJ.length:Nat):Int) != t_.places))::(G6 aB)) es ah fun dx ct=>?_
    rcases Y2 ((((eJ.length:Nat):Int) != t_.places)) with an | an
    ·
     rw [an,XW] at z
     have et:Kn _ _ ((tB 44 true)::(G6 aB)) _:=(ct.setB 44 true (by rfl) an).kp
     refine Dr [10,11,12,13,14,15,16,17,18,19] (dn 19) ((tB 54 true)::(G6 aB)) et ah fun iw eu=>?_
     refine AL (by kernel_rfl) ?_
     obtain rfl:=XZ z
     exact XY _ ⟨_,rfl,(eu.keep [3,1,54] (by rfl)).cut 1 (by kernel_rfl),ah.cutPl 1 (by kernel_rfl),Ac.le_refl _⟩
    rw [an,XV] at z
    have ev:Kn _ _ ((tB 44 false)::(G6 aB)) _:=(ct.setB 44 false (by rfl) an).kp
    refine Dr [10,11,12] (dn 12) ((tI 47 aB)::(tS 46 k t_.empty.length l)::(tB 44 false)::(G6 aB)) ev ah fun ix cu=>?_
    obtain⟨fN,jE,z⟩:=Ao z
    obtain⟨gy,g4,hn⟩:=Aj jE
    obtain⟨bg,cc,ib,ee,hd,ek⟩:=e.get (by decide) hn
    obtain⟨a1,a3,rfl,ha⟩:=hd
    have b9:=ah.addPlc (b:=bg) (o:=cc+Yc aB*1) (cs:=[Yb a1 fN.length a3]) (fun j c hj=>ek j _ (Ak hj)) rfl (by kernel_rfl) (by kernel_rfl)
    refine A5 13 (aB) [Yb a1 fN.length a3] (fun _ _ _ _ _ h=>h) rfl rfl (Al cu (by kernel_rfl)) rfl (by decide) (by kernel_rfl) (by kernel_rfl) cu ah.plOk (by rfl) (by rfl) (by rfl) ee (by rfl) gy g4 (by kernel_rfl) fun hx (ew:Kn _ [(a,0),(ag,aj+Yc aB*1),(bg,cc+Yc aB*1)] ((tP 48 2 0)::(tI 47 aB)::(tS 46 k t_.empty.length l)::(tB 44 false)::(G6 aB)) _)=>?_
    refine Dr [14,15] (dn 15) ((tI 50 aB)::(tS 49 a1 fN.length a3)::(tB 44 false)::(G6 aB)) ew b9 fun iz cv=>?_
    obtain⟨cG,hG,z⟩:=Ao z
    obtain⟨gz,g5,ho⟩:=Aj hG
    obtain⟨cn,dt,ic,ef,he,el⟩:=ha.get (by decide) ho
    obtain rfl:=he
    have dg:=b9.addPlc (b:=cn) (o:=dt+Yc aB*1) (cs:=[XR cG]) (fun j c hj=>el j _ (Ak hj)) rfl (by kernel_rfl) (by kernel_rfl)
    refine A5 16 (aB) [XR cG] (fun _ _ _ _ _ h=>h) rfl rfl (Al cv (by kernel_rfl)) rfl (by decide) (by kernel_rfl) (by kernel_rfl) cv b9.plOk (by rfl) (by rfl) (by rfl) ef (by rfl) gz g5 (by kernel_rfl) fun hy (ey:Kn _ [(a,0),(ag,aj+Yc aB*1),(bg,cc+Yc aB*1),(cn,dt+Yc aB*1)] ((tP 51 3 0)::(tI 50 aB)::(tS 49 a1 fN.length a3)::(tB 44 false)::(G6 aB)) _)=>?_
    refine Dr [17,18,19] (dn 19) ((tB 54 (cG != 0))::(G6 aB)) ey dg fun i1 ez=>?_
    refine AL (by kernel_rfl) ?_
    obtain rfl:=XZ z
    exact XY _ ⟨_,rfl,(ez.keep [3,1,54] (by rfl)).cut 1 (by kernel_rfl),dg.cutPl 1 (by kernel_rfl),Ac.le_refl _⟩
   rintro _ kh ⟨cl,am,rfl,bv,a8,b4⟩
   replace e:=e.mono b4
   refine wC (ds) bv (fun bn=>?_) (fun bn=>?_)
   ·
    rw [Ba bn] at u
    refine XT (Aa (Rk 0 1 [tI 2 1] bv a8 fun i2 e0=>?_))
    refine wf (wp_ret ?_)
    obtain rfl:=XZ u
    obtain rfl:=XZ H
    exact rt (.one (.c (XR 1))) e0 a8 rfl
   rw [Bb bn] at u
   refine wp_skip (XT (Aa (Rk 0 1 ((tI 4 0)::(G6 aB)) bv a8 fun i3 e1=>?_)))
   refine wf ?_
   obtain⟨dm,cp,u⟩:=Ao u
   refine Ar (fun a' w'=>∃ (du:Unit)(ce:Array Value)(bj:Ac),a' = ⟨ce,[]⟩∧Kn 124 [(a,0)] (G6 aB) ce∧Ai ⟨w,h,BF⟩ bj [(a,0)] [⟨NW t_ k l p q,some 25⟩] [] w'∧Ac.le am bj∧dm=.go du) ?_ ?_
   ·
    refine wp_block ?_
    refine Av (fun ht a' w'=>∃ (aD:Int)(cf:Array Value)(bk:Ac),a' = ⟨cf,[]⟩∧Kn 124 [(a,0)] ((tI 4 aD)::(G6 aB)) cf∧Ai ⟨w,h,BF⟩ bk [(a,0)] [⟨NW t_ k l p q,some 25⟩] [] w'∧Ac.le am bk∧Dp ht t_ aB aD=some dm) bd ?_ ?_
    ·
     exact XY 0 ⟨_,_,rfl,e1.kp,a8,Ac.le_refl _,cp⟩
    rintro bc _ ki ⟨aD,cf,bk,rfl,e2,a9,a5,s⟩
    clear cp
    obtain _ | bc:=bc
    ·
     rw [Dp] at s; cases s
    rw [Dp] at s
    replace e:=e.mono a5
    refine XT (XT (Aa (Rk 0 4 ((tB 58 (decide (aD<t_.places)))::(tI 4 aD)::(G6 aB)) e2 a9 fun i4 bx=>?_)))
    refine wf (wC (decide (aD<t_.places)) bx (fun bp=>?_) (fun bp=>?_))
    ·
     rw [bp,XW] at s
     refine wp_skip (XT (wp_block (XT (Aa (Rk 0 3 ((tI 63 aB)::(tS 62 k t_.empty.length l)::(tI 4 aD)::(G6 aB)) bx a9 fun i6 e3=>?_)))))
     obtain⟨gX,lA,s⟩:=Ao s
     obtain⟨g0,g6,hp⟩:=Aj lA
     obtain⟨a2,be,ie,eg,hf,em⟩:=e.get (by decide) hp
     obtain⟨bf,bi,rfl,hc⟩:=hf
     have dh:=a9.addPlc (b:=a2) (o:=be+Yc aB*1) (cs:=[Yb bf gX.length bi]) (fun j c hj=>em j _ (Ak hj)) rfl (by kernel_rfl) (by kernel_rfl)
     refine A9 3 (aB) rfl rfl (rfl) rfl (by decide) e3 (by rfl) (by rfl) (by rfl) eg (by rfl) g0 g6 (by kernel_rfl) fun hz (e5:Kn _ [(a,0),(a2,be+Yc aB*1)] ((tP 64 1 0)::(tI 63 aB)::(tS 62 k t_.empty.length l)::(tI 4 aD)::(G6 aB)) _)=>?_
     refine Rk 4 2 ((tI 66 aD)::(tS 65 bf gX.length bi)::(tI 4 aD)::(G6 aB)) e5 dh fun i7 e6=>?_
     obtain⟨iT,kZ,s⟩:=Ao s
     obtain⟨g1,g7,hq⟩:=Aj kZ
     obtain⟨bh,cd,ig,eh,hg,en⟩:=hc.get (by decide) hq
     obtain rfl:=hg
     have ca:=dh.addPlc (b:=bh) (o:=cd+Yc aD*1) (cs:=[XR iT]) (fun j c hj=>en j _ (Ak hj)) rfl (by kernel_rfl) (by kernel_rfl)
     refine A9 6 (aD) rfl rfl (rfl) rfl (by decide) e6 (by rfl) (by rfl) (by rfl) eh (by rfl) g1 g7 (by kernel_rfl) fun h0 (e7:Kn _ [(a,0),(a2,be+Yc aB*1),(bh,cd+Yc aD*1)] ((tP 67 2 0)::(tI 66 aD)::(tS 65 bf gX.length bi)::(tI 4 aD)::(G6 aB)) _)=>?_
     refine Rk 7 1 ((tI 68 iT)::(tI 4 aD)::(G6 aB)) e7 ca fun i8 e8=>?_
     obtain⟨eZ,jK,s⟩:=Ao s
     refine wl fun K hK=>?_
     refine wc [.c (XR iT),.c (XR 0),.c (XR 600)] e8 ca (DJ bc ca.has iT 0 600 jK) fun j9 ij kj d6 gu ay=>?_
     obtain rfl:=d6
     refine⟨.one (.c (.bool eZ)),rfl,fun h1 (e9:Kn _ [(a,0),(a2,be+Yc aB*1),(bh,cd+Yc aD*1)] ((tB 69 eZ)::(tI 68 iT)::(tI 4 aD)::(G6 aB)) _)=>hK _ _ ?_⟩
     refine Rk 9 1 ((tB 70 (!eZ))::(tI 4 aD)::(G6 aB)) e9 ay fun i9 bz=>?_
     refine wf (wC ((!eZ)) bz (fun bq=>?_) (fun bq=>?_))
     ·
      rw [bq,XW] at s
      refine XT (Aa (Rk 0 1 [tI 2 1] bz ay fun ja fa=>?_))
      refine wf (wp_ret ?_)
      obtain rfl:=XZ s
      obtain rfl:=XZ u
      obtain rfl:=XZ H
      exact rt (.one (.c (XR 1))) fa ay rfl
     rw [bq,XV] at s
     refine wp_skip (Aa (Rk 0 3 ((tI 4 (Ya (aD+1)))::(G6 aB)) bz ay fun jb fb=>?_))
     refine wf ?_
     exact XY bc ⟨Y4 _,XY (Ya (aD+1)) ⟨_,_,rfl,(fb.keep [4,3,1] (by rfl)).cut 1 (by kernel_rfl),ay.cutPl 1 (by kernel_rfl),XU a5 gu,s⟩⟩
    rw [bp,XV] at s
    refine wp_exit ?_
    obtain rfl:=XZ s
    exact XY () ⟨_,_,rfl,bx.kp,a9,a5,rfl⟩
   rintro _ kk ⟨du,ce,bj,rfl,fc,di,gv,rfl⟩
   rw [Ex.bind_go] at u
   refine Aa (Rk 0 3 [tI 3 (Ya (aB+1)),tP 1 0 0] fc di fun jd fd=>?_)
   refine wf ?_
   exact XY bd ⟨Y4 _,XY (Ya (aB+1)) ⟨_,_,rfl,fd.kp,di,XU a7 (XU b4 gv),u⟩⟩
  rw [bu,XV] at u
  refine wp_exit ?_
  obtain rfl:=XZ u
  exact XY () ⟨_,_,rfl,b3.kp,af,a7,rfl⟩
 rintro _ kl ⟨dw,cj,al,rfl,fe,dj,dd,rfl⟩
 rw [Ex.bind_go] at H
 replace f:=f.mono dd
 refine XT (XT (Aa (Rk 0 1 [tI 5 0,tP 1 0 0] fe dj fun je fg=>?_)))
 refine wf ?_
 obtain⟨dq,cq,H⟩:=Ao H
 refine Ar (fun a' w'=>∃ (dv:Unit)(ch:Array Value)(bl:Ac),a' = ⟨ch,[]⟩∧Kn 124 [(a,0)] [] ch∧Ai ⟨w,h,BF⟩ bl [(a,0)] [⟨NW t_ k l p q,some 25⟩] [] w'∧Ac.le al bl∧dq=.go dv) ?_ ?_
 ·
  refine wp_block ?_
  refine Av (fun hu a' w'=>∃ (bB:Int)(ci:Array Value)(bm:Ac),a' = ⟨ci,[]⟩∧Kn 124 [(a,0)] (KX bB) ci∧Ai ⟨w,h,BF⟩ bm [(a,0)] [⟨NW t_ k l p q,some 25⟩] [] w'∧Ac.le al bm∧CO hu t_ bB=some dq) n ?_ ?_
  ·
   exact XY 0 ⟨_,_,rfl,fg.kp,dj,Ac.le_refl _,cq⟩
  rintro aa _ km ⟨bB,ci,bm,rfl,fh,ba,a6,d⟩
  clear cq
  obtain _ | aa:=aa
  ·
   rw [CO] at d; cases d
  rw [CO] at d
  replace f:=f.mono a6
  refine XT (XT (Aa (Rk 0 5 ((tB 75 (decide (bB<((t_.trips.length:Nat):Int))))::(KX bB)) fh ba fun jf b0=>?_)))
  refine wf (wC (decide (bB<((t_.trips.length:Nat):Int))) b0 (fun br=>?_) (fun br=>?_))
  ·
   rw [br,XW] at d
   refine wp_skip (XT (wp_block (XT (Aa (Rk 0 3 ((tI 80 bB)::(tS 79 p t_.trips.length q)::(KX bB)) b0 ba fun jg fi=>?_)))))
   obtain⟨fS,ex81,d⟩:=Ao d
   obtain⟨g2,g8,hr⟩:=Aj ex81
   obtain⟨g,i,ih,ei,hi,eo⟩:=f.get (by decide) hr
   obtain⟨_,_,rfl,rfl,⟨_,_,rfl,rfl,⟨_,_,rfl,rfl,⟨_,_,rfl,rfl,⟨_,_,rfl,rfl,rfl⟩⟩⟩⟩⟩:=hi
   have dk:=ba.addPlc (b:=g) (o:=i+Yc bB*6) (cs:=(VU fS)) (fun j c hj=>eo j _ (Ak hj)) rfl (by kernel_rfl) (by kernel_rfl)
   refine A9 3 (bB) rfl rfl (rfl) rfl (by decide) fi (by rfl) (by rfl) (by rfl) ei (by rfl) g2 g8 (by kernel_rfl) fun h2 (fj:Kn _ [(a,0),(g,i+Yc bB*6)] ((tP 81 1 0)::(tI 80 bB)::(tS 79 p t_.trips.length q)::(KX bB)) _)=>?_
   refine Rk 4 1 ((tA 82 (VU fS))::(KX bB)) fj dk fun jh fk=>?_
   refine wl fun K hK=>?_
   refine wa [XR 0,XR 0,XR 0,XR 0,XR 0,XR 0] fk dk fun m dy ko (fl:Kn _ (UR a g i bB m) ((tP 6 2 0)::(tA 82 (VU fS))::(KX bB)) _) gx=>hK _ _ ?_
   refine wl fun K hK=>?_
   refine DT 2 0 (.agg (VU fS)) (VU fS) fl gx fun kq fm cb=>hK _ _ ?_
   have fn:Kn _ _ (GL bB) _:=fm.kp
   refine wf (XT (Aa (Rk 0 5 ((tI 87 (Ya (t_.places-1)))::(tI 84 fS.fr)::(GL bB)) fn cb fun ji fo=>?_)))
   obtain⟨x88,ex88,d⟩:=Ao d
   refine wl fun K hK=>?_
   refine wc [.c (XR fS.fr),.c (XR 0),.c (XR (Ya (t_.places-1)))] fo cb (DJ aa cb.has fS.fr 0 (Ya (t_.places-1)) ex88) fun kb il kr d8 b5 ac=>?_
   obtain rfl:=d8
   refine⟨.one (.c (.bool x88)),rfl,fun h3 (fp:Kn _ (UR a g i bB m) ((tB 88 x88)::(tI 87 (Ya (t_.places-1)))::(tI 84 fS.fr)::(GL bB)) _)=>hK _ _ ?_⟩
   refine Rk 6 2 ((tB 90 (!x88))::(GL bB)) fp ac fun dz cw=>?_
   rcases Y2 ((!x88)) with ao | ao
   ·
    rw [ao,XW] at d
    have fq:Kn _ _ ((tB 90 true)::(GL bB)) _:=(cw.setB 90 true (by rfl) ao).kp
    refine Rk 8 33 ((tB 123 true)::(KX bB)) fq ac fun jj cx=>?_
    refine wf (wC true cx (fun hb=>?_) (fun hb=>?_))
    rotate_left
    ·
     cases hb
    refine XT (Aa (Rk 0 1 [tI 2 1] cx ac fun jk fs=>?_))
    refine wf (wp_ret ?_)
    obtain rfl:=XZ d
    obtain rfl:=XZ H
    exact rt (.one (.c (XR 1))) fs ac rfl
   rw [ao,XV] at d
   have ft:Kn _ _ ((tB 90 false)::(GL bB)) _:=(cw.setB 90 false (by rfl) ao).kp
   refine Rk 8 5 ((tI 95 (Ya (t_.places-1)))::(tI 92 fS.to_)::(tB 90 false)::(GL bB)) ft ac fun jl cy=>?_
   obtain⟨jA,ex96,d⟩:=Ao d
   refine AD _ rfl (Al cy (by kernel_rfl)) fun K hK=>?_
   refine wc [.c (XR fS.to_),.c (XR 0),.c (XR (Ya (t_.places-1)))] cy ac (DJ aa ac.has fS.to_ 0 (Ya (t_.places-1)) ex96) fun kc im ks d9 b6 ad=>?_
   obtain rfl:=d9
   refine⟨.one (.c (.bool jA)),rfl,fun h5 (fu:Kn _ (UR a g i bB m) ((tB 96 jA)::(tI 95 (Ya (t_.places-1)))::(tI 92 fS.to_)::(tB 90 false)::(GL bB)) _)=>hK _ _ ?_⟩
   refine Rk 14 3 ((tB 99 (!jA))::(GL bB)) fu ad fun d0 cz=>?_
   rcases Y2 ((!jA)) with ap | ap
   ·
    rw [ap,XW] at d
    have fv:Kn _ _ ((tB 99 true)::(GL bB)) _:=(cz.setB 99 true (by rfl) ap).kp
    refine Rk 17 24 ((tB 123 true)::(KX bB)) fv ad fun jm c0=>?_
    refine wf (wC true c0 (fun hb=>?_) (fun hb=>?_))
    rotate_left
    ·
     cases hb
    refine XT (Aa (Rk 0 1 [tI 2 1] c0 ad fun jn fx=>?_))
    refine wf (wp_ret ?_)
    obtain rfl:=XZ d
    obtain rfl:=XZ H
    exact rt (.one (.c (XR 1))) fx ad rfl
   rw [ap,XV] at d
   have fy:Kn _ _ ((tB 99 false)::(GL bB)) _:=(cz.setB 99 false (by rfl) ap).kp
   refine Rk 17 2 ((tI 101 fS.start)::(tB 99 false)::(GL bB)) fy ad fun jo c1=>?_
   obtain⟨kF,ex102,d⟩:=Ao d
   refine AD _ rfl (Al c1 (by kernel_rfl)) fun K hK=>?_
   refine wc [.c (XR fS.start),.c (XR 0),.c (XR 2000)] c1 ad (DJ aa ad.has fS.start 0 2000 ex102) fun kd io kt ea b7 ae=>?_
   obtain rfl:=ea
   refine⟨.one (.c (.bool kF)),rfl,fun h6 (fz:Kn _ (UR a g i bB m) ((tB 102 kF)::(tI 101 fS.start)::(tB 99 false)::(GL bB)) _)=>hK _ _ ?_⟩
   refine Rk 20 3 ((tB 105 (!kF))::(GL bB)) fz ae fun d2 c2=>?_
   rcases Y2 ((!kF)) with aq | aq
   ·
    rw [aq,XW] at d
    have f0:Kn _ _ ((tB 105 true)::(GL bB)) _:=(c2.setB 105 true (by rfl) aq).kp
    refine Rk 23 18 ((tB 123 true)::(KX bB)) f0 ae fun jp c3=>?_
    refine wf (wC true c3 (fun hb=>?_) (fun hb=>?_))
    rotate_left
    ·
     cases hb
    refine XT (Aa (Rk 0 1 [tI 2 1] c3 ae fun jq f1=>?_))
    refine wf (wp_ret ?_)
    obtain rfl:=XZ d
    obtain rfl:=XZ H
    exact rt (.one (.c (XR 1))) f1 ae rfl
   rw [aq,XV] at d
   have f2:Kn _ _ ((tB 105 false)::(GL bB)) _:=(c2.setB 105 false (by rfl) aq).kp
   refine Rk 23 4 ((tI 109 fS.most)::(tI 107 fS.least)::(tB 105 false)::(GL bB)) f2 ae fun jr c5=>?_
   obtain⟨kG,ex110,d⟩:=Ao d
   refine AD _ rfl (Al c5 (by kernel_rfl)) fun K hK=>?_
   refine wc [.c (XR fS.least),.c (XR 1),.c (XR fS.most)] c5 ae (DJ aa ae.has fS.least 1 fS.most ex110) fun ke ip ku eb b8 y=>?_
   obtain rfl:=eb
   refine⟨.one (.c (.bool kG)),rfl,fun h7 (f3:Kn _ (UR a g i bB m) ((tB 110 kG)::(tI 109 fS.most)::(tI 107 fS.least)::(tB 105 false)::(GL bB)) _)=>hK _ _ ?_⟩
   refine Rk 28 3 ((tB 113 (!kG))::(GL bB)) f3 y fun d3 c6=>?_
   rcases Y2 ((!kG)) with au | au
   ·
    rw [au,XW] at d
    have f4:Kn _ _ ((tB 113 true)::(GL bB)) _:=(c6.setB 113 true (by rfl) au).kp
    refine Rk 31 10 ((tB 123 true)::(KX bB)) f4 y fun js c7=>?_
    refine wf (wC true c7 (fun hb=>?_) (fun hb=>?_))
    rotate_left
    ·
     cases hb
    refine XT (Aa (Rk 0 1 [tI 2 1] c7 y fun jt f5=>?_))
    refine wf (wp_ret ?_)
    obtain rfl:=XZ d
    obtain rfl:=XZ H
    exact rt (.one (.c (XR 1))) f5 y rfl
   rw [au,XV] at d
   have f7:Kn _ _ ((tB 113 false)::(GL bB)) _:=(c6.setB 113 false (by rfl) au).kp
   refine Rk 31 5 ((tB 118 (decide (fS.most>600)))::(GL bB)) f7 y fun d4 c8=>?_
   rcases Y2 (decide (fS.most>600)) with av | av
   ·
    rw [av,XW] at d
    have f8:Kn _ _ ((tB 118 true)::(GL bB)) _:=(c8.setB 118 true (by rfl) av).kp
    refine Rk 36 5 ((tB 123 true)::(KX bB)) f8 y fun ju c9=>?_
    refine wf (wC true c9 (fun hb=>?_) (fun hb=>?_))
    rotate_left
    ·
     cases hb
    refine XT (Aa (Rk 0 1 [tI 2 1] c9 y fun jv f9=>?_))
    refine wf (wp_ret ?_)
    obtain rfl:=XZ d
    obtain rfl:=XZ H
    exact rt (.one (.c (XR 1))) f9 y rfl
   rw [av,XV] at d
   have ga:Kn _ _ ((tB 118 false)::(GL bB)) _:=(c8.setB 118 false (by rfl) av).kp
   refine Rk 36 2 ((tI 120 fS.kind)::(tB 118 false)::(KX bB)) ga y fun jx da=>?_
   obtain⟨kH,ex121,d⟩:=Ao d
   refine AD _ rfl (Al da (by kernel_rfl)) fun K hK=>?_
   refine wc [.c (XR fS.kind),.c (XR 0),.c (XR 2)] da y (DJ aa y.has fS.kind 0 2 ex121) fun kf iq kv ec gw az=>?_
   obtain rfl:=ec
   refine⟨.one (.c (.bool kH)),rfl,fun h8 (gb:Kn _ (UR a g i bB m) ((tB 121 kH)::(tI 120 fS.kind)::(tB 118 false)::(KX bB)) _)=>hK _ _ ?_⟩
   refine Rk 39 2 ((tB 123 (!kH))::(KX bB)) gb az fun jy b1=>?_
   refine wf (wC ((!kH)) b1 (fun bs=>?_) (fun bs=>?_))
   ·
    rw [bs,XW] at d
    refine XT (Aa (Rk 0 1 [tI 2 1] b1 az fun jz gd=>?_))
    refine wf (wp_ret ?_)
    obtain rfl:=XZ d
    obtain rfl:=XZ H
    exact rt (.one (.c (XR 1))) gd az rfl
   rw [bs,XV] at d
   refine wp_skip (Aa (Rk 0 3 [tI 5 (Ya (bB+1)),tP 1 0 0] b1 az fun j0 gf=>?_))
   refine wf ?_
   exact XY aa ⟨Y4 _,XY (Ya (bB+1)) ⟨_,_,rfl,(gf.keep [5,1] (by rfl)).cut 1 (by kernel_rfl),az.cutPl 1 (by kernel_rfl),XU a6 (XU b5 (XU b6 (XU b7 (XU b8 gw)))),d⟩⟩
  rw [br,XV] at d
  refine wp_exit ?_
  obtain rfl:=XZ d
  exact XY () ⟨_,_,rfl,b0.kp,ba,a6,rfl⟩
 rintro _ kw ⟨dv,ch,bl,rfl,gg,dl,iu,rfl⟩
 rw [Ex.bind_go] at H
 refine XT (Aa (Rk 0 1 [tI 2 0] gg dl fun j1 gi=>?_))
 refine wf (wp_ret ?_)
 obtain rfl:=XZ H
 exact rt (.one (.c (XR 0))) gi dl rfl
theorem MW (n:Nat) {h:Ac} {w:World} (hh:CK h w) (x:Int) (q0:Int→Option Bool) {cH:Nat} (fA:B9 h cH q0) {r:Bool} (H:Ds n x q0=some r) :
  Calls Tryz.prog 72 #[.int .i64 x,.pointer (some ⟨cH,0,none⟩)] w (CP (fun h v=>v=.bool r) h w):=by
 obtain⟨_,fB,fC⟩:=id fA
 obtain⟨d,a,b,rfl,i⟩:=fB
 refine DZ (e:=[(cH,0)]) 8 [.c (XR x),.c (.ptr 0 0)] Tryz.func72 rfl rfl rfl rfl fun t hk=>?_
 have hm:=Ai.begin h w hh
 replace hm:=hm.addPlc (o:=0) (cs:=[.func d a b]) (fun j c hj=>by rw [Y3]; exact fC j _ (Ak hj)) rfl (by kernel_rfl) (by kernel_rfl)
 replace hm:Ai _ _ [(cH,0)] [⟨[.func d a b],none⟩] [] _:=hm
 unfold Ds at H
 refine XT (Aa (Rk 0 1 [tI 0 x,tP 1 0 0] hk hm fun z m=>?_))
 refine wf (XT (Aa (Rk 0 2 [tI 5 x,(4,.one (.c (.func d a b)))] m hm fun aa p=>?_)))
 obtain⟨x6,kS,H⟩:=Ao H
 refine wl fun K hK=>?_
 refine D2 (.func d a b) [.c (XR x)] _ p hm rfl rfl (by decide) (by rfl) (by rfl) rfl (i _ _ (Ac.le_refl _) hm.has x _ kS) fun ab s ac g u f=>?_
 obtain rfl:=g
 refine⟨.one (.c (.bool x6)),rfl,fun q (k:Kn _ [(cH,0)] [tB 6 x6,tI 5 x,(4,.one (.c (.func d a b)))] _)=>hK _ _ ?_⟩
 refine Rk 3 2 [tB 3 (!x6)] k f fun y l=>?_
 refine wf (wp_ret ?_)
 obtain rfl:=XZ H
 exact rt (.one (.c (.bool (!x6)))) l f rfl
theorem Px (n:Nat) {h:Ac} {w:World} (hh:CK h w) (l:List Int) {bK:Yd} {bL:Nat} (dP:At h bK bL l) (right:Int→Option Bool) {bM:Fn} {bN bO:Array Value} (dE:UV h (.func bM bN bO) right) {r:Bool} (H:Ht n l right=some r) :
  Calls Tryz.prog 40 #[.slice bK l.length bL,.func bM bN bO] w (CP (fun h v=>v=.bool r) h w):=by
 refine enter 9 [.c (Yb bK l.length bL),.c (.func bM bN bO)] Tryz.func40 rfl rfl rfl rfl fun t hk=>?_
 have hm:=Ai.begin h w hh
 unfold Ht at H
 refine XT (Aa (wl fun K hK=>?_))
 refine wb (.c (.func bM bN bO)) hk hm fun a aa ac (u:Kn _ [(a,0)] [tP 3 0 0,tS 0 bK l.length bL,(1,.one (.c (.func bM bN bO)))] _) f=>hK _ _ ?_
 refine Rk 1 1 [tP 3 0 0,tS 0 bK l.length bL] u f fun ah x=>?_
 refine wf (XT (Aa (Rk 0 1 [tS 5 bK l.length bL,tP 3 0 0] x f fun ai y=>?_)))
 obtain⟨b,j,g,d⟩:=f.settlePlc (i:=0) rfl
 replace dP:=dP.mono j
 replace dE:=dE.mono j
 replace d:Ai _ _ [(a,0)] [⟨[.func bM bN bO],none⟩] [] _:=d
 have o:B9 b a (right:Int→Option Bool):=B9.of (e:=[(a,0)]) (cs:=[.func bM bN bO]) (⟨_,_,_,rfl,dE⟩:rep b (right:Int→Option Bool) _) rfl g
 have ae:As b a [.func bM bN bO]:=As.of (e:=[(a,0)]) (cs:=[.func bM bN bO]) rfl g
 refine Ey 1 #[] #[.pointer (some ⟨a,0,none⟩)] y rfl rfl (rfl) rfl (by decide) (by rfl) (by rfl) (by rfl) (by rfl) fun z (p:Kn _ [(a,0)] [(6,.one (.c (.func (.func 72) #[] #[.pointer (some ⟨a,0,none⟩)]))),tS 5 bK l.length bL,tP 3 0 0] _)=>?_
 obtain⟨x7,iX,H⟩:=Ao H
 refine wl fun K hK=>?_
 refine wc [.c (Yb bK l.length bL),.c (.func (.func 72) #[] #[.pointer (some ⟨a,0,none⟩)])] p d (D4 n d.has l dP (fun(y0:Int)=>Ds n y0 right) (show UV b (.func (.func 72) #[] #[.pointer (some ⟨a,0,none⟩)]) (fun(y0:Int)=>Ds n y0 right) from fun h2 w2 hle hh y0 r H=>⟨72,_,_,rfl,fun _ _=>by kernel_rfl,MW n hh y0 right (o.mono hle) H⟩) iX) fun aj ad ak m af k=>?_
 obtain rfl:=m
 refine⟨.one (.c (.bool x7)),rfl,fun ab (q:Kn _ [(a,0)] [tB 7 x7,(6,.one (.c (.func (.func 72) #[] #[.pointer (some ⟨a,0,none⟩)]))),tS 5 bK l.length bL,tP 3 0 0] _)=>hK _ _ ?_⟩
 refine Rk 3 2 [tB 4 (!x7)] q k fun ag s=>?_
 refine wf (wp_ret ?_)
 obtain rfl:=XZ H
 exact rt (.one (.c (.bool (!x7)))) s k rfl
theorem DV (n:Nat) {h:Ac} {w:World} (hh:CK h w) (n_:Int) (low:Int) (high:Int) {r:Bool} (H:Dt n n_ low high=some r) :
  Calls Tryz.prog 42 #[.int .i64 n_,.int .i64 low,.int .i64 high] w (CP (fun h v=>v=.bool r) h w):=by
 refine enter 15 [.c (XR n_),.c (XR low),.c (XR high)] Tryz.func42 rfl rfl rfl rfl fun t hk=>?_
 have hm:=Ai.begin h w hh
 unfold Dt at H
 refine XT (Aa (Rk 0 1 [tI 0 n_,tI 1 low,tI 2 high] hk hm fun k f=>?_))
 refine wf (XT (Aa (Rk 0 4 [tB 10 (decide (low≤n_)),tI 0 n_,tI 2 high] f hm fun d b=>?_)))
 rcases Y2 (decide (low≤n_)) with a | a
 ·
  rw [a,XW] at H
  have g:Kn _ _ [tB 10 true,tI 0 n_,tI 2 high] _:=(b.setB 10 true (by rfl) a).kp
  refine Rk 4 5 [tB 6 (decide (n_≤high))] g hm fun m i=>?_
  refine wf (wp_ret ?_)
  obtain rfl:=XZ H
  exact rt (.one (.c (.bool (decide (n_≤high))))) i hm rfl
 rw [a,XV] at H
 have j:Kn _ _ [tB 10 false,tI 0 n_,tI 2 high] _:=(b.setB 10 false (by rfl) a).kp
 refine Rk 4 5 [tB 6 false] j hm fun l e=>?_
 refine wf (wp_ret ?_)
 obtain rfl:=XZ H
 exact rt (.one (.c (.bool false))) e hm rfl
theorem Hj (n:Nat) {h:Ac} {w:World} (hh:CK h w) (n_:Int) {r:Bool} (H:C7 n n_=some r) :
  Calls Tryz.prog 41 #[.int .i64 n_] w (CP (fun h v=>v=.bool r) h w):=by
 refine enter 5 [.c (XR n_)] Tryz.func41 rfl rfl rfl rfl fun t hk=>?_
 have hm:=Ai.begin h w hh
 unfold C7 at H
 refine XT (Aa (Rk 0 1 [tI 0 n_] hk hm fun l f=>?_))
 refine wf (XT (Aa (Rk 0 1 [tI 3 n_] f hm fun o g=>?_)))
 obtain⟨x4,ex4,H⟩:=Ao H
 refine wl fun K hK=>?_
 refine wc [.c (XR n_),.c (XR 0),.c (XR 600)] g hm (DV n hm.has n_ 0 600 ex4) fun p j q b k a=>?_
 obtain rfl:=b
 refine⟨.one (.c (.bool x4)),rfl,fun i (d:Kn _ [] [tB 4 x4,tI 3 n_] _)=>hK _ _ ?_⟩
 refine Rk 2 1 [tB 2 x4] d a fun m e=>?_
 refine wf (wp_ret ?_)
 obtain rfl:=XZ H
 exact rt (.one (.c (.bool x4))) e a rfl
theorem JD (n:Nat) {h:Ac} {w:World} (hh:CK h w) (l:List Int) {bK:Yd} {bL:Nat} (dP:At h bK bL l) (q0:An) {cH:Nat} (fA:B9 h cH q0) {r:Bool} (H:BM n l q0=some r) :
  Calls Tryz.prog 39 #[.slice bK l.length bL,.pointer (some ⟨cH,0,none⟩)] w (CP (fun h v=>v=.bool r) h w):=by
 obtain⟨_,fB,fC⟩:=id fA
 obtain⟨_,_,rfl,rfl,⟨_,_,rfl,rfl,⟨_,_,rfl,⟨b,f,rfl,ae⟩,⟨d,g,rfl,af⟩⟩⟩⟩:=fB
 refine DZ (e:=[(cH,0)]) 13 [.c (Yb bK l.length bL),.c (.ptr 0 0)] Tryz.func39 rfl rfl rfl rfl fun t hk=>?_
 have hm:=Ai.begin h w hh
 replace hm:=hm.addPlc (o:=0) (cs:=[XR q0.places,XR q0.layover,Yb b q0.empty.length f,Yb d q0.trips.length g]) (fun j c hj=>by rw [Y3]; exact fC j _ (Ak hj)) rfl (by kernel_rfl) (by kernel_rfl)
 replace hm:Ai _ _ [(cH,0)] [⟨[XR q0.places,XR q0.layover,Yb b q0.empty.length f,Yb d q0.trips.length g],none⟩] [] _:=hm
 unfold BM at H
 refine XT (Aa (Rk 0 1 [tS 0 bK l.length bL,tP 1 0 0] hk hm fun aj aa=>?_))
 refine wf (XT (Aa (Rk 0 6 [tB 9 (((l.length:Nat):Int) == q0.places),tS 0 bK l.length bL] aa hm fun p i=>?_)))
 rcases Y2 ((((l.length:Nat):Int) == q0.places)) with a | a
 ·
  rw [a,XW] at H
  have s:Kn _ _ [tB 9 true,tS 0 bK l.length bL] _:=(i.setB 9 true (by rfl) a).kp
  refine Rk 6 1 [tS 10 bK l.length bL,tB 9 true] s hm fun ag k=>?_
  obtain⟨cY,gR,H⟩:=Ao H
  refine AD _ rfl (Al k (by kernel_rfl)) fun K hK=>?_
  refine wc [.c (Yb bK l.length bL),.c (.func (.func 41) #[] #[])] k hm (Px n hm.has l dP (fun(y0:Int)=>C7 n y0) (show UV h (.func (.func 41) #[] #[]) (fun(y0:Int)=>C7 n y0) from fun h2 w2 hle hh y0 r H=>⟨41,_,_,rfl,fun _ _=>by kernel_rfl,Hj n hh y0 H⟩) gR) fun ak ac al q ad m=>?_
  obtain rfl:=q
  refine⟨.one (.c (.bool cY)),rfl,fun ab (u:Kn _ [(cH,0)] [tB 11 cY,tS 10 bK l.length bL,tB 9 true] _)=>hK _ _ ?_⟩
  refine Rk 8 2 [tB 3 cY] u m fun ah x=>?_
  refine wf (wp_ret ?_)
  obtain rfl:=XZ H
  exact rt (.one (.c (.bool cY))) x m rfl
 rw [a,XV] at H
 have y:Kn _ _ [tB 9 false,tS 0 bK l.length bL] _:=(i.setB 9 false (by rfl) a).kp
 refine Rk 6 4 [tB 3 false] y hm fun ai z=>?_
 refine wf (wp_ret ?_)
 obtain rfl:=XZ H
 exact rt (.one (.c (.bool false))) z hm rfl
abbrev HA (s:List (List Int))(dB dD)(bW:Fn)(bX:Array Value)(bY:Array Value):=([tI 7 ((s.length:Nat):Int),tS 0 dB s.length dD,(1,.one (.c (.func bW bX bY)))]:TM)
theorem Gx (n:Nat) {h:Ac} {w:World} (hh:CK h w) (s:List (List Int)) {dB:Yd} {dD:Nat} (eW:At h dB dD s) (f:(List Int)→Option Bool) {bW:Fn} {bX bY:Array Value} (fP:Wy h (.func bW bX bY) f) {r:Int} (H:Cj n s f=some r) :
  Calls Tryz.prog 100 #[.slice dB s.length dD,.func bW bX bY] w (CP (fun h v=>v=.int .i64 r) h w):=by
 refine enter 19 [.c (Yb dB s.length dD),.c (.func bW bX bY)] Tryz.func100 rfl rfl rfl rfl fun t hk=>?_
 have hm:=Ai.begin h w hh
 unfold Cj at H
 refine XT (Aa (Rk 0 1 [tS 0 dB s.length dD,(1,.one (.c (.func bW bX bY)))] hk hm fun bb an=>?_))
 refine wf (XT (XT (Aa (Rk 0 3 ((tI 8 0)::(HA s dB dD bW bX bY)) an hm fun bf aq=>?_))))
 refine wf ?_
 obtain⟨ag,ae,H⟩:=Ao H
 refine Ar (fun a' w'=>∃ (ah:Unit)(ad:Array Value)(q:Ac),a' = ⟨ad,[]⟩∧Kn 19 [] [] ad∧Ai ⟨w,h,BF⟩ q [] [] [] w'∧Ac.le h q∧ag=.go ah) ?_ ?_
 ·
  refine wp_block ?_
  refine Av (fun a6 a' w'=>∃ (aB:Int)(ac:Array Value)(p:Ac),a' = ⟨ac,[]⟩∧Kn 19 [] ((tI 8 aB)::(HA s dB dD bW bX bY)) ac∧Ai ⟨w,h,BF⟩ p [] [] [] w'∧Ac.le h p∧AO a6 s f aB=some ag) n ?_ ?_
  ·
   exact XY 0 ⟨_,_,rfl,aq.kp,hm,Ac.le_refl _,ae⟩
  rintro ab _ bl ⟨aB,ac,p,rfl,am,d,k,a⟩
  clear ae
  obtain _ | ab:=ab
  ·
   rw [AO] at a; cases a
  rw [AO] at a
  replace eW:=eW.mono k
  replace fP:=fP.mono k
  refine XT (Aa (Rk 0 1 ((tB 9 (decide (aB<((s.length:Nat):Int))))::(tI 8 aB)::(HA s dB dD bW bX bY)) am d fun bc y=>?_))
  refine wf (XT (wC (decide (aB<((s.length:Nat):Int))) y (fun u=>?_) (fun u=>?_)))
  ·
   rw [u,XW] at a
   refine wp_skip (XT (wp_block (XT (Aa (Rk 0 2 ((tI 5 aB)::(tI 8 aB)::(HA s dB dD bW bX bY)) y d fun bd ao=>?_)))))
   refine wf (XT (Aa (Rk 0 3 ((tI 13 aB)::(tS 12 dB s.length dD)::(11,.one (.c (.func bW bX bY)))::(tI 5 aB)::(tI 8 aB)::(HA s dB dD bW bX bY)) ao d fun be ap=>?_)))
   obtain⟨cQ,fX,a⟩:=Ao a
   obtain⟨a1,a2,a5⟩:=Aj fX
   obtain⟨g,m,a8,ak,a4,al⟩:=eW.get (by decide) a5
   obtain⟨e,i,rfl,a3⟩:=a4
   have aa:=d.addPlc (b:=g) (o:=m+Yc aB*1) (cs:=[Yb e cQ.length i]) (fun j c hj=>al j _ (Ak hj)) rfl (by kernel_rfl) (by kernel_rfl)
   refine A9 3 (aB) rfl rfl (rfl) rfl (by decide) ap (by rfl) (by rfl) (by rfl) ak (by rfl) a1 a2 (by kernel_rfl) fun a7 (ar:Kn _ [(g,m+Yc aB*1)] ((tP 14 0 0)::(tI 13 aB)::(tS 12 dB s.length dD)::(11,.one (.c (.func bW bX bY)))::(tI 5 aB)::(tI 8 aB)::(HA s dB dD bW bX bY)) _)=>?_
   refine Rk 4 1 ((tS 15 e cQ.length i)::(11,.one (.c (.func bW bX bY)))::(tI 5 aB)::(tI 8 aB)::(HA s dB dD bW bX bY)) ar aa fun bg au=>?_
   obtain⟨cT,fT,a⟩:=Ao a
   refine wl fun K hK=>?_
   refine D2 (.func bW bX bY) [.c (Yb e cQ.length i)] _ au aa rfl rfl (by decide) (by rfl) (by rfl) rfl (fP _ _ (Ac.le_refl _) aa.has cQ _ _ a3 _ fT) fun bk a9 bm aj a0 l=>?_
   obtain rfl:=aj
   refine⟨.one (.c (.bool cT)),rfl,fun ai (av:Kn _ [(g,m+Yc aB*1)] ((tB 16 cT)::(tS 15 e cQ.length i)::(11,.one (.c (.func bW bX bY)))::(tI 5 aB)::(tI 8 aB)::(HA s dB dD bW bX bY)) _)=>hK _ _ ?_⟩
   have z:Kn _ _ ((tB 16 cT)::(tI 5 aB)::(tI 8 aB)::(HA s dB dD bW bX bY)) _:=av.kp
   refine wf (wC (cT) z (fun x=>?_) (fun x=>?_))
   ·
    rw [Ba x] at a
    refine XT (Aa (Rk 0 2 [tI 4 aB] z l fun bh aw=>?_))
    refine wf (wp_ret ?_)
    obtain rfl:=XZ a
    obtain rfl:=XZ H
    exact rt (.one (.c (XR aB))) aw l rfl
   rw [Bb x] at a
   refine wp_skip (Aa (Rk 0 2 ((tI 8 (Ya (aB+1)))::(HA s dB dD bW bX bY)) z l fun bi ax=>?_))
   refine wf ?_
   exact XY ab ⟨Y4 _,XY (Ya (aB+1)) ⟨_,_,rfl,(ax.keep [8,7,0,1] (by rfl)).cut 0 (by kernel_rfl),l.cutPl 0 (by kernel_rfl),XU k a0,a⟩⟩
  rw [u,XV] at a
  refine wp_exit ?_
  obtain rfl:=XZ a
  exact XY () ⟨_,_,rfl,y.kp,d,k,rfl⟩
 rintro _ bn ⟨ah,ad,q,rfl,ay,af,ba,rfl⟩
 rw [Ex.bind_go] at H
 refine XT (Aa (Rk 0 1 [tI 4 (-1)] ay af fun bj az=>?_))
 refine wf (wp_ret ?_)
 obtain rfl:=XZ H
 exact rt (.one (.c (XR (-1)))) az af rfl
theorem FD (n:Nat) {h:Ac} {w:World} (hh:CK h w) (s:List (List Int)) {dB:Yd} {dD:Nat} (eW:At h dB dD s) (f:(List Int)→Option Bool) {bW:Fn} {bX bY:Array Value} (fP:Wy h (.func bW bX bY) f) {r:Bool} (H:BN n s f=some r) :
  Calls Tryz.prog 73 #[.slice dB s.length dD,.func bW bX bY] w (CP (fun h v=>v=.bool r) h w):=by
 refine enter 9 [.c (Yb dB s.length dD),.c (.func bW bX bY)] Tryz.func73 rfl rfl rfl rfl fun t hk=>?_
 have hm:=Ai.begin h w hh
 unfold BN at H
 refine XT (Aa (Rk 0 1 [tS 0 dB s.length dD,(1,.one (.c (.func bW bX bY)))] hk hm fun m g=>?_))
 refine wf (XT (Aa (Rk 0 2 [(6,.one (.c (.func bW bX bY))),tS 5 dB s.length dD] g hm fun p i=>?_)))
 obtain⟨x7,iX,H⟩:=Ao H
 refine wl fun K hK=>?_
 refine wc [.c (Yb dB s.length dD),.c (.func bW bX bY)] i hm (Gx n hm.has s eW f fP iX) fun q k u b l a=>?_
 obtain rfl:=b
 refine⟨.one (.c (XR x7)),rfl,fun j (d:Kn _ [] [tI 7 x7,(6,.one (.c (.func bW bX bY))),tS 5 dB s.length dD] _)=>hK _ _ ?_⟩
 refine Rk 3 2 [tB 4 (decide (x7≥0))] d a fun o e=>?_
 refine wf (wp_ret ?_)
 obtain rfl:=XZ H
 exact rt (.one (.c (.bool (decide (x7≥0))))) e a rfl
theorem Mu (n:Nat) {h:Ac} {w:World} (hh:CK h w) (x:List Int) {eX:Yd} {eY:Nat} (iL:At h eX eY x) (q0:(List Int)→Option Bool) {cH:Nat} (fA:B9 h cH q0) {r:Bool} (H:C8 n x q0=some r) :
  Calls Tryz.prog 74 #[.slice eX x.length eY,.pointer (some ⟨cH,0,none⟩)] w (CP (fun h v=>v=.bool r) h w):=by
 obtain⟨_,fB,fC⟩:=id fA
 obtain⟨d,a,b,rfl,i⟩:=fB
 refine DZ (e:=[(cH,0)]) 8 [.c (Yb eX x.length eY),.c (.ptr 0 0)] Tryz.func74 rfl rfl rfl rfl fun t hk=>?_
 have hm:=Ai.begin h w hh
 replace hm:=hm.addPlc (o:=0) (cs:=[.func d a b]) (fun j c hj=>by rw [Y3]; exact fC j _ (Ak hj)) rfl (by kernel_rfl) (by kernel_rfl)
 replace hm:Ai _ _ [(cH,0)] [⟨[.func d a b],none⟩] [] _:=hm
 unfold C8 at H
 refine XT (Aa (Rk 0 1 [tS 0 eX x.length eY,tP 1 0 0] hk hm fun z m=>?_))
 refine wf (XT (Aa (Rk 0 2 [tS 5 eX x.length eY,(4,.one (.c (.func d a b)))] m hm fun aa p=>?_)))
 obtain⟨x6,kS,H⟩:=Ao H
 refine wl fun K hK=>?_
 refine D2 (.func d a b) [.c (Yb eX x.length eY)] _ p hm rfl rfl (by decide) (by rfl) (by rfl) rfl (i _ _ (Ac.le_refl _) hm.has x _ _ iL _ kS) fun ab s ac g u f=>?_
 obtain rfl:=g
 refine⟨.one (.c (.bool x6)),rfl,fun q (k:Kn _ [(cH,0)] [tB 6 x6,tS 5 eX x.length eY,(4,.one (.c (.func d a b)))] _)=>hK _ _ ?_⟩
 refine Rk 3 2 [tB 3 (!x6)] k f fun y l=>?_
 refine wf (wp_ret ?_)
 obtain rfl:=XZ H
 exact rt (.one (.c (.bool (!x6)))) l f rfl
theorem NX (n:Nat) {h:Ac} {w:World} (hh:CK h w) (l:List (List Int)) {bK:Yd} {bL:Nat} (dP:At h bK bL l) (right:(List Int)→Option Bool) {bM:Fn} {bN bO:Array Value} (dE:Wy h (.func bM bN bO) right) {r:Bool} (H:GI n l right=some r) :
  Calls Tryz.prog 43 #[.slice bK l.length bL,.func bM bN bO] w (CP (fun h v=>v=.bool r) h w):=by
 refine enter 9 [.c (Yb bK l.length bL),.c (.func bM bN bO)] Tryz.func43 rfl rfl rfl rfl fun t hk=>?_
 have hm:=Ai.begin h w hh
 unfold GI at H
 refine XT (Aa (wl fun K hK=>?_))
 refine wb (.c (.func bM bN bO)) hk hm fun a aa ac (u:Kn _ [(a,0)] [tP 3 0 0,tS 0 bK l.length bL,(1,.one (.c (.func bM bN bO)))] _) f=>hK _ _ ?_
 refine Rk 1 1 [tP 3 0 0,tS 0 bK l.length bL] u f fun ah x=>?_
 refine wf (XT (Aa (Rk 0 1 [tS 5 bK l.length bL,tP 3 0 0] x f fun ai y=>?_)))
 obtain⟨b,j,g,d⟩:=f.settlePlc (i:=0) rfl
 replace dP:=dP.mono j
 replace dE:=dE.mono j
 replace d:Ai _ _ [(a,0)] [⟨[.func bM bN bO],none⟩] [] _:=d
 have o:B9 b a (right:(List Int)→Option Bool):=B9.of (e:=[(a,0)]) (cs:=[.func bM bN bO]) (⟨_,_,_,rfl,dE⟩:rep b (right:(List Int)→Option Bool) _) rfl g
 have ae:As b a [.func bM bN bO]:=As.of (e:=[(a,0)]) (cs:=[.func bM bN bO]) rfl g
 refine Ey 1 #[] #[.pointer (some ⟨a,0,none⟩)] y rfl rfl (rfl) rfl (by decide) (by rfl) (by rfl) (by rfl) (by rfl) fun z (p:Kn _ [(a,0)] [(6,.one (.c (.func (.func 74) #[] #[.pointer (some ⟨a,0,none⟩)]))),tS 5 bK l.length bL,tP 3 0 0] _)=>?_
 obtain⟨x7,iX,H⟩:=Ao H
 refine wl fun K hK=>?_
 refine wc [.c (Yb bK l.length bL),.c (.func (.func 74) #[] #[.pointer (some ⟨a,0,none⟩)])] p d (FD n d.has l dP (fun(y0:List Int)=>C8 n y0 right) (show Wy b (.func (.func 74) #[] #[.pointer (some ⟨a,0,none⟩)]) (fun(y0:List Int)=>C8 n y0 right) from fun h2 w2 hle hh y0 a0 c0 hy0 r H=>⟨74,_,_,rfl,fun _ _=>by kernel_rfl,Mu n hh y0 hy0 right (o.mono hle) H⟩) iX) fun aj ad ak m af k=>?_
 obtain rfl:=m
 refine⟨.one (.c (.bool x7)),rfl,fun ab (q:Kn _ [(a,0)] [tB 7 x7,(6,.one (.c (.func (.func 74) #[] #[.pointer (some ⟨a,0,none⟩)]))),tS 5 bK l.length bL,tP 3 0 0] _)=>hK _ _ ?_⟩
 refine Rk 3 2 [tB 4 (!x7)] q k fun ag s=>?_
 refine wf (wp_ret ?_)
 obtain rfl:=XZ H
 exact rt (.one (.c (.bool (!x7)))) s k rfl
theorem Hk (n:Nat) {h:Ac} {w:World} (hh:CK h w) (t_:An) {cN:Ye} (dL:rep h t_ cN) (n_:Int) {r:Bool} (H:DO n t_ n_=some r) :
  Calls Tryz.prog 75 #[.agg cN.toArray,.int .i64 n_] w (CP (fun h v=>v=.bool r) h w):=by
 obtain⟨_,_,rfl,rfl,⟨_,_,rfl,rfl,⟨_,_,rfl,⟨b,e,rfl,y⟩,⟨d,f,rfl,z⟩⟩⟩⟩:=dL
 refine enter 10 [.agg [XR t_.places,XR t_.layover,Yb b t_.empty.length e,Yb d t_.trips.length f],.c (XR n_)] Tryz.func75 rfl rfl rfl rfl fun t hk=>?_
 have hm:=Ai.begin h w hh
 unfold DO at H
 refine XT (Aa (wl fun K hK=>?_))
 refine wb (.agg [XR t_.places,XR t_.layover,Yb b t_.empty.length e,Yb d t_.trips.length f]) hk hm fun g s af (k:Kn _ [(g,0)] [tP 2 0 0,tA 0 [XR t_.places,XR t_.layover,Yb b t_.empty.length e,Yb d t_.trips.length f],tI 1 n_] _) a=>hK _ _ ?_
 refine Rk 1 1 [tP 2 0 0,tI 1 n_] k a fun aa l=>?_
 refine wf (XT (Aa (Rk 0 4 [tI 8 (Ya (t_.places-1)),tI 5 n_] l a fun ab m=>?_)))
 obtain⟨x9,kW,H⟩:=Ao H
 refine wl fun K hK=>?_
 refine wc [.c (XR n_),.c (XR 0),.c (XR (Ya (t_.places-1)))] m a (DV n a.has n_ 0 (Ya (t_.places-1)) kW) fun ad u ae j x i=>?_
 obtain rfl:=j
 refine⟨.one (.c (.bool x9)),rfl,fun q (o:Kn _ [(g,0)] [tB 9 x9,tI 8 (Ya (t_.places-1)),tI 5 n_] _)=>hK _ _ ?_⟩
 refine Rk 5 1 [tB 4 x9] o i fun ac p=>?_
 refine wf (wp_ret ?_)
 obtain rfl:=XZ H
 exact rt (.one (.c (.bool x9))) p i rfl
theorem Mv (n:Nat) {h:Ac} {w:World} (hh:CK h w) (t_:An) {cN:Ye} (dL:rep h t_ cN) (x:AH) {hD:Ye} (jC:rep h x hD) {r:Bool} (H:C9 n t_ x=some r) :
  Calls Tryz.prog 44 #[.agg cN.toArray,.agg hD.toArray] w (CP (fun h v=>v=.bool r) h w):=by
 obtain⟨_,_,rfl,rfl,⟨_,_,rfl,rfl,⟨_,_,rfl,⟨d,f,rfl,i⟩,⟨e,g,rfl,j⟩⟩⟩⟩:=dL
 obtain⟨_,_,rfl,rfl,⟨_,_,rfl,rfl,⟨_,_,rfl,rfl,⟨_,_,rfl,rfl,⟨_,_,rfl,rfl,rfl⟩⟩⟩⟩⟩:=jC
 refine enter 37 [.agg (NW t_ d f e g),.agg (VU x)] Tryz.func44 rfl rfl rfl rfl fun t hk=>?_
 have hm:=Ai.begin h w hh
 unfold C9 at H
 refine XT (Aa (wl fun K hK=>?_))
 refine wb (.agg (NW t_ d f e g)) hk hm fun a b2 c0 (a5:Kn _ [(a,0)] [tP 2 0 0,tA 0 (NW t_ d f e g),tA 1 (VU x)] _) bv=>hK _ _ ?_
 refine wl fun K hK=>?_
 refine wb (.agg (VU x)) a5 bv fun b bw cu (bh:Kn _ [(a,0),(b,0)] [tP 3 1 0,tP 2 0 0,tA 0 (NW t_ d f e g),tA 1 (VU x)] _) aa=>hK _ _ ?_
 refine Rk 2 1 [tP 3 1 0,tP 2 0 0] bh aa fun cg bi=>?_
 refine wf (XT (Aa (Rk 0 3 [tI 7 x.fr,tA 5 (NW t_ d f e g),tP 3 1 0,tP 2 0 0] bi aa fun ch bj=>?_)))
 obtain⟨x8,ex8,H⟩:=Ao H
 refine wl fun K hK=>?_
 refine wc [.agg (NW t_ d f e g),.c (XR x.fr)] bj aa (Hk n aa.has t_ ((Ab Ad (Ab Ad (Ab (Af i) (Af j)))):rep h t_ _) x.fr ex8) fun co a4 cv ay al k=>?_
 replace i:=i.mono al
 replace j:=j.mono al
 obtain rfl:=ay
 refine⟨.one (.c (.bool x8)),rfl,fun bx (bk:Kn _ [(a,0),(b,0)] [tB 8 x8,tI 7 x.fr,tA 5 (NW t_ d f e g),tP 3 1 0,tP 2 0 0] _)=>hK _ _ ?_⟩
 refine Rk 4 1 [tB 9 x8,tP 3 1 0,tP 2 0 0] bk k fun ar ab=>?_
 rcases Y2 (x8) with q | q
 ·
  rw [Ba q] at H
  have bl:Kn _ _ [tB 9 true,tP 3 1 0,tP 2 0 0] _:=(ab.setB 9 true (by rfl) q).kp
  refine Rk 5 3 [tI 12 x.to_,tA 10 (NW t_ d f e g),tB 9 true,tP 3 1 0] bl k fun ci ac=>?_
  obtain⟨cC,fY,H⟩:=Ao H
  refine AD _ rfl (Al ac (by kernel_rfl)) fun K hK=>?_
  refine wc [.agg (NW t_ d f e g),.c (XR x.to_)] ac k (Hk n k.has t_ ((Ab Ad (Ab Ad (Ab (Af i) (Af j)))):rep a4 t_ _) x.to_ fY) fun cp b5 cw az am l=>?_
  obtain rfl:=az
  refine⟨.one (.c (.bool cC)),rfl,fun bz (bm:Kn _ [(a,0),(b,0)] [tB 13 cC,tI 12 x.to_,tA 10 (NW t_ d f e g),tB 9 true,tP 3 1 0] _)=>hK _ _ ?_⟩
  refine Rk 9 2 [tB 15 cC,tP 3 1 0] bm l fun au ad=>?_
  rcases Y2 (cC) with s | s
  ·
   rw [Ba s] at H
   have bn:Kn _ _ [tB 15 true,tP 3 1 0] _:=(ad.setB 15 true (by rfl) s).kp
   refine Rk 11 2 [tI 17 x.start,tB 15 true,tP 3 1 0] bn l fun cj ae=>?_
   obtain⟨cS,gW,H⟩:=Ao H
   refine AD _ rfl (Al ae (by kernel_rfl)) fun K hK=>?_
   refine wc [.c (XR x.start),.c (XR 0),.c (XR 2000)] ae l (DV n l.has x.start 0 2000 gW) fun cq b6 cx a0 an m=>?_
   obtain rfl:=a0
   refine⟨.one (.c (.bool cS)),rfl,fun b0 (bo:Kn _ [(a,0),(b,0)] [tB 18 cS,tI 17 x.start,tB 15 true,tP 3 1 0] _)=>hK _ _ ?_⟩
   refine Rk 14 2 [tB 20 cS,tP 3 1 0] bo m fun av af=>?_
   rcases Y2 (cS) with u | u
   ·
    rw [Ba u] at H
    have bp:Kn _ _ [tB 20 true,tP 3 1 0] _:=(af.setB 20 true (by rfl) u).kp
    refine Rk 16 4 [tI 24 x.most,tI 22 x.least,tB 20 true,tP 3 1 0] bp m fun ck ag=>?_
    obtain⟨eC,iD,H⟩:=Ao H
    refine AD _ rfl (Al ag (by kernel_rfl)) fun K hK=>?_
    refine wc [.c (XR x.least),.c (XR 1),.c (XR x.most)] ag m (DV n m.has x.least 1 x.most iD) fun cr b7 cy a1 ao o=>?_
    obtain rfl:=a1
    refine⟨.one (.c (.bool eC)),rfl,fun b1 (bq:Kn _ [(a,0),(b,0)] [tB 25 eC,tI 24 x.most,tI 22 x.least,tB 20 true,tP 3 1 0] _)=>hK _ _ ?_⟩
    refine Rk 21 2 [tB 27 eC,tP 3 1 0] bq o fun aw ah=>?_
    rcases Y2 (eC) with y | y
    ·
     rw [Ba y] at H
     have br:Kn _ _ [tB 27 true,tP 3 1 0] _:=(ah.setB 27 true (by rfl) y).kp
     refine Rk 23 2 [tI 29 x.most,tB 27 true,tP 3 1 0] br o fun cl ai=>?_
     obtain⟨dM,iA,H⟩:=Ao H
     refine AD _ rfl (Al ai (by kernel_rfl)) fun K hK=>?_
     refine wc [.c (XR x.most)] ai o (Hj n o.has x.most iA) fun cs b8 cz a2 ap p=>?_
     obtain rfl:=a2
     refine⟨.one (.c (.bool dM)),rfl,fun b3 (bs:Kn _ [(a,0),(b,0)] [tB 30 dM,tI 29 x.most,tB 27 true,tP 3 1 0] _)=>hK _ _ ?_⟩
     refine Rk 26 2 [tB 32 dM,tP 3 1 0] bs p fun ax aj=>?_
     rcases Y2 (dM) with z | z
     ·
      rw [Ba z] at H
      have bt:Kn _ _ [tB 32 true,tP 3 1 0] _:=(aj.setB 32 true (by rfl) z).kp
      refine Rk 28 2 [tI 34 x.kind,tB 32 true] bt p fun cm ak=>?_
      obtain⟨dC,kC,H⟩:=Ao H
      refine AD _ rfl (Al ak (by kernel_rfl)) fun K hK=>?_
      refine wc [.c (XR x.kind),.c (XR 0),.c (XR 2)] ak p (DV n p.has x.kind 0 2 kC) fun ct b9 c1 a3 ca aq=>?_
      obtain rfl:=a3
      refine⟨.one (.c (.bool dC)),rfl,fun b4 (bu:Kn _ [(a,0),(b,0)] [tB 35 dC,tI 34 x.kind,tB 32 true] _)=>hK _ _ ?_⟩
      refine Rk 31 2 [tB 4 dC] bu aq fun cn a6=>?_
      refine wf (wp_ret ?_)
      obtain rfl:=XZ H
      exact rt (.one (.c (.bool dC))) a6 aq rfl
     rw [Bb z] at H
     have a7:Kn _ _ [tB 32 false,tP 3 1 0] _:=(aj.setB 32 false (by rfl) z).kp
     refine Rk 28 5 [tB 4 false] a7 p fun cb a8=>?_
     refine wf (wp_ret ?_)
     obtain rfl:=XZ H
     exact rt (.one (.c (.bool false))) a8 p rfl
    rw [Bb y] at H
    have a9:Kn _ _ [tB 27 false,tP 3 1 0] _:=(ah.setB 27 false (by rfl) y).kp
    refine Rk 23 10 [tB 4 false] a9 o fun cc ba=>?_
    refine wf (wp_ret ?_)
    obtain rfl:=XZ H
    exact rt (.one (.c (.bool false))) ba o rfl
   rw [Bb u] at H
   have bb:Kn _ _ [tB 20 false,tP 3 1 0] _:=(af.setB 20 false (by rfl) u).kp
   refine Rk 16 17 [tB 4 false] bb m fun cd bc=>?_
   refine wf (wp_ret ?_)
   obtain rfl:=XZ H
   exact rt (.one (.c (.bool false))) bc m rfl
  rw [Bb s] at H
  have bd:Kn _ _ [tB 15 false,tP 3 1 0] _:=(ad.setB 15 false (by rfl) s).kp
  refine Rk 11 22 [tB 4 false] bd l fun ce be=>?_
  refine wf (wp_ret ?_)
  obtain rfl:=XZ H
  exact rt (.one (.c (.bool false))) be l rfl
 rw [Bb q] at H
 have bf:Kn _ _ [tB 9 false,tP 3 1 0,tP 2 0 0] _:=(ab.setB 9 false (by rfl) q).kp
 refine Rk 5 28 [tB 4 false] bf k fun cf bg=>?_
 refine wf (wp_ret ?_)
 obtain rfl:=XZ H
 exact rt (.one (.c (.bool false))) bg k rfl
abbrev HB (s:List AH)(dB dD)(bW:Fn)(bX:Array Value)(bY:Array Value):=([tI 7 ((s.length:Nat):Int),tS 0 dB s.length dD,(1,.one (.c (.func bW bX bY)))]:TM)
theorem EH (n:Nat) {h:Ac} {w:World} (hh:CK h w) (s:List AH) {dB:Yd} {dD:Nat} (eW:At h dB dD s) (f:AH→Option Bool) {bW:Fn} {bX bY:Array Value} (fP:Wz h (.func bW bX bY) f) {r:Int} (H:By n s f=some r) :
  Calls Tryz.prog 101 #[.slice dB s.length dD,.func bW bX bY] w (CP (fun h v=>v=.int .i64 r) h w):=by
 refine enter 19 [.c (Yb dB s.length dD),.c (.func bW bX bY)] Tryz.func101 rfl rfl rfl rfl fun t hk=>?_
 have hm:=Ai.begin h w hh
 unfold By at H
 refine XT (Aa (Rk 0 1 [tS 0 dB s.length dD,(1,.one (.c (.func bW bX bY)))] hk hm fun a8 al=>?_))
 refine wf (XT (XT (Aa (Rk 0 3 ((tI 8 0)::(HB s dB dD bW bX bY)) al hm fun bc ap=>?_))))
 refine wf ?_
 obtain⟨ae,ac,H⟩:=Ao H
 refine Ar (fun a' w'=>∃ (af:Unit)(ab:Array Value)(m:Ac),a' = ⟨ab,[]⟩∧Kn 19 [] [] ab∧Ai ⟨w,h,BF⟩ m [] [] [] w'∧Ac.le h m∧ae=.go af) ?_ ?_
 ·
  refine wp_block ?_
  refine Av (fun a3 a' w'=>∃ (aB:Int)(aa:Array Value)(g:Ac),a' = ⟨aa,[]⟩∧Kn 19 [] ((tI 8 aB)::(HB s dB dD bW bX bY)) aa∧Ai ⟨w,h,BF⟩ g [] [] [] w'∧Ac.le h g∧AB a3 s f aB=some ae) n ?_ ?_
  ·
   exact XY 0 ⟨_,_,rfl,ap.kp,hm,Ac.le_refl _,ac⟩
  rintro z _ bi ⟨aB,aa,g,rfl,ak,d,i,a⟩
  clear ac
  obtain _ | z:=z
  ·
   rw [AB] at a; cases a
  rw [AB] at a
  replace eW:=eW.mono i
  replace fP:=fP.mono i
  refine XT (Aa (Rk 0 1 ((tB 9 (decide (aB<((s.length:Nat):Int))))::(tI 8 aB)::(HB s dB dD bW bX bY)) ak d fun a9 u=>?_))
  refine wf (XT (wC (decide (aB<((s.length:Nat):Int))) u (fun p=>?_) (fun p=>?_)))
  ·
   rw [p,XW] at a
   refine wp_skip (XT (wp_block (XT (Aa (Rk 0 2 ((tI 5 aB)::(tI 8 aB)::(HB s dB dD bW bX bY)) u d fun ba am=>?_)))))
   refine wf (XT (Aa (Rk 0 3 ((tI 13 aB)::(tS 12 dB s.length dD)::(11,.one (.c (.func bW bX bY)))::(tI 5 aB)::(tI 8 aB)::(HB s dB dD bW bX bY)) am d fun bb an=>?_)))
   obtain⟨cQ,fX,a⟩:=Ao a
   obtain⟨az,a0,a2⟩:=Aj fX
   obtain⟨e,l,a5,ai,a1,aj⟩:=eW.get (by decide) a2
   obtain⟨_,_,rfl,rfl,⟨_,_,rfl,rfl,⟨_,_,rfl,rfl,⟨_,_,rfl,rfl,⟨_,_,rfl,rfl,rfl⟩⟩⟩⟩⟩:=a1
   have y:=d.addPlc (b:=e) (o:=l+Yc aB*6) (cs:=(VU cQ)) (fun j c hj=>aj j _ (Ak hj)) rfl (by kernel_rfl) (by kernel_rfl)
   refine A9 3 (aB) rfl rfl (rfl) rfl (by decide) an (by rfl) (by rfl) (by rfl) ai (by rfl) az a0 (by kernel_rfl) fun a4 (ao:Kn _ [(e,l+Yc aB*6)] ((tP 14 0 0)::(tI 13 aB)::(tS 12 dB s.length dD)::(11,.one (.c (.func bW bX bY)))::(tI 5 aB)::(tI 8 aB)::(HB s dB dD bW bX bY)) _)=>?_
   refine Rk 4 1 ((tA 15 (VU cQ))::(11,.one (.c (.func bW bX bY)))::(tI 5 aB)::(tI 8 aB)::(HB s dB dD bW bX bY)) ao y fun bd aq=>?_
   obtain⟨cT,fT,a⟩:=Ao a
   refine wl fun K hK=>?_
   refine D2 (.func bW bX bY) [.agg (VU cQ)] _ aq y rfl rfl (by decide) (by rfl) (by rfl) rfl (fP _ _ (Ac.le_refl _) y.has cQ _ ((Ab Ad (Ab Ad (Ab Ad (Ab Ad (Ab Ad Ad))))):rep g cQ _) _ fT) fun bh a6 bj ah ay k=>?_
   obtain rfl:=ah
   refine⟨.one (.c (.bool cT)),rfl,fun ag (ar:Kn _ [(e,l+Yc aB*6)] ((tB 16 cT)::(tA 15 (VU cQ))::(11,.one (.c (.func bW bX bY)))::(tI 5 aB)::(tI 8 aB)::(HB s dB dD bW bX bY)) _)=>hK _ _ ?_⟩
   have x:Kn _ _ ((tB 16 cT)::(tI 5 aB)::(tI 8 aB)::(HB s dB dD bW bX bY)) _:=ar.kp
   refine wf (wC (cT) x (fun q=>?_) (fun q=>?_))
   ·
    rw [Ba q] at a
    refine XT (Aa (Rk 0 2 [tI 4 aB] x k fun be au=>?_))
    refine wf (wp_ret ?_)
    obtain rfl:=XZ a
    obtain rfl:=XZ H
    exact rt (.one (.c (XR aB))) au k rfl
   rw [Bb q] at a
   refine wp_skip (Aa (Rk 0 2 ((tI 8 (Ya (aB+1)))::(HB s dB dD bW bX bY)) x k fun bf av=>?_))
   refine wf ?_
   exact XY z ⟨Y4 _,XY (Ya (aB+1)) ⟨_,_,rfl,(av.keep [8,7,0,1] (by rfl)).cut 0 (by kernel_rfl),k.cutPl 0 (by kernel_rfl),XU i ay,a⟩⟩
  rw [p,XV] at a
  refine wp_exit ?_
  obtain rfl:=XZ a
  exact XY () ⟨_,_,rfl,u.kp,d,i,rfl⟩
 rintro _ bk ⟨af,ab,m,rfl,aw,ad,a7,rfl⟩
 rw [Ex.bind_go] at H
 refine XT (Aa (Rk 0 1 [tI 4 (-1)] aw ad fun bg ax=>?_))
 refine wf (wp_ret ?_)
 obtain rfl:=XZ H
 exact rt (.one (.c (XR (-1)))) ax ad rfl
theorem Ed (n:Nat) {h:Ac} {w:World} (hh:CK h w) (s:List AH) {dB:Yd} {dD:Nat} (eW:At h dB dD s) (f:AH→Option Bool) {bW:Fn} {bX bY:Array Value} (fP:Wz h (.func bW bX bY) f) {r:Bool} (H:Bh n s f=some r) :
  Calls Tryz.prog 76 #[.slice dB s.length dD,.func bW bX bY] w (CP (fun h v=>v=.bool r) h w):=by
 refine enter 9 [.c (Yb dB s.length dD),.c (.func bW bX bY)] Tryz.func76 rfl rfl rfl rfl fun t hk=>?_
 have hm:=Ai.begin h w hh
 unfold Bh at H
 refine XT (Aa (Rk 0 1 [tS 0 dB s.length dD,(1,.one (.c (.func bW bX bY)))] hk hm fun m g=>?_))
 refine wf (XT (Aa (Rk 0 2 [(6,.one (.c (.func bW bX bY))),tS 5 dB s.length dD] g hm fun p i=>?_)))
 obtain⟨x7,iX,H⟩:=Ao H
 refine wl fun K hK=>?_
 refine wc [.c (Yb dB s.length dD),.c (.func bW bX bY)] i hm (EH n hm.has s eW f fP iX) fun q k u b l a=>?_
 obtain rfl:=b
 refine⟨.one (.c (XR x7)),rfl,fun j (d:Kn _ [] [tI 7 x7,(6,.one (.c (.func bW bX bY))),tS 5 dB s.length dD] _)=>hK _ _ ?_⟩
 refine Rk 3 2 [tB 4 (decide (x7≥0))] d a fun o e=>?_
 refine wf (wp_ret ?_)
 obtain rfl:=XZ H
 exact rt (.one (.c (.bool (decide (x7≥0))))) e a rfl
theorem IN (n:Nat) {h:Ac} {w:World} (hh:CK h w) (x:AH) {hD:Ye} (jC:rep h x hD) (q0:AH→Option Bool) {cH:Nat} (fA:B9 h cH q0) {r:Bool} (H:BD n x q0=some r) :
  Calls Tryz.prog 77 #[.agg hD.toArray,.pointer (some ⟨cH,0,none⟩)] w (CP (fun h v=>v=.bool r) h w):=by
 obtain⟨_,_,rfl,rfl,⟨_,_,rfl,rfl,⟨_,_,rfl,rfl,⟨_,_,rfl,rfl,⟨_,_,rfl,rfl,rfl⟩⟩⟩⟩⟩:=jC
 obtain⟨_,fB,fC⟩:=id fA
 obtain⟨d,a,b,rfl,l⟩:=fB
 refine DZ (e:=[(cH,0)]) 8 [.agg (VU x),.c (.ptr 0 0)] Tryz.func77 rfl rfl rfl rfl fun t hk=>?_
 have hm:=Ai.begin h w hh
 replace hm:=hm.addPlc (o:=0) (cs:=[.func d a b]) (fun j c hj=>by rw [Y3]; exact fC j _ (Ak hj)) rfl (by kernel_rfl) (by kernel_rfl)
 replace hm:Ai _ _ [(cH,0)] [⟨[.func d a b],none⟩] [] _:=hm
 unfold BD at H
 refine XT (Aa (wl fun K hK=>?_))
 refine wb (.agg (VU x)) hk hm fun g z ah (u:Kn _ [(cH,0),(g,0)] [tP 2 1 0,tA 0 (VU x),tP 1 0 0] _) f=>hK _ _ ?_
 refine Rk 1 1 [tP 2 1 0,tP 1 0 0] u f fun ac m=>?_
 refine wf (XT (Aa (Rk 0 2 [tA 5 (VU x),(4,.one (.c (.func d a b)))] m f fun ad p=>?_)))
 obtain⟨x6,kS,H⟩:=Ao H
 refine wl fun K hK=>?_
 refine D2 (.func d a b) [.agg (VU x)] _ p f rfl rfl (by decide) (by rfl) (by rfl) rfl (l _ _ (Ac.le_refl _) f.has x _ ((Ab Ad (Ab Ad (Ab Ad (Ab Ad (Ab Ad Ad))))):rep h x _) _ kS) fun af aa ag k ab i=>?_
 obtain rfl:=k
 refine⟨.one (.c (.bool x6)),rfl,fun y (q:Kn _ [(cH,0),(g,0)] [tB 6 x6,tA 5 (VU x),(4,.one (.c (.func d a b)))] _)=>hK _ _ ?_⟩
 refine Rk 3 2 [tB 3 (!x6)] q i fun ae s=>?_
 refine wf (wp_ret ?_)
 obtain rfl:=XZ H
 exact rt (.one (.c (.bool (!x6)))) s i rfl
theorem Kd (n:Nat) {h:Ac} {w:World} (hh:CK h w) (l:List AH) {bK:Yd} {bL:Nat} (dP:At h bK bL l) (right:AH→Option Bool) {bM:Fn} {bN bO:Array Value} (dE:Wz h (.func bM bN bO) right) {r:Bool} (H:E9 n l right=some r) :
  Calls Tryz.prog 45 #[.slice bK l.length bL,.func bM bN bO] w (CP (fun h v=>v=.bool r) h w):=by
 refine enter 9 [.c (Yb bK l.length bL),.c (.func bM bN bO)] Tryz.func45 rfl rfl rfl rfl fun t hk=>?_
 have hm:=Ai.begin h w hh
 unfold E9 at H
 refine XT (Aa (wl fun K hK=>?_))
 refine wb (.c (.func bM bN bO)) hk hm fun a aa ac (u:Kn _ [(a,0)] [tP 3 0 0,tS 0 bK l.length bL,(1,.one (.c (.func bM bN bO)))] _) f=>hK _ _ ?_
 refine Rk 1 1 [tP 3 0 0,tS 0 bK l.length bL] u f fun ah x=>?_
 refine wf (XT (Aa (Rk 0 1 [tS 5 bK l.length bL,tP 3 0 0] x f fun ai y=>?_)))
 obtain⟨b,j,g,d⟩:=f.settlePlc (i:=0) rfl
 replace dP:=dP.mono j
 replace dE:=dE.mono j
 replace d:Ai _ _ [(a,0)] [⟨[.func bM bN bO],none⟩] [] _:=d
 have o:B9 b a (right:AH→Option Bool):=B9.of (e:=[(a,0)]) (cs:=[.func bM bN bO]) (⟨_,_,_,rfl,dE⟩:rep b (right:AH→Option Bool) _) rfl g
 have ae:As b a [.func bM bN bO]:=As.of (e:=[(a,0)]) (cs:=[.func bM bN bO]) rfl g
 refine Ey 1 #[] #[.pointer (some ⟨a,0,none⟩)] y rfl rfl (rfl) rfl (by decide) (by rfl) (by rfl) (by rfl) (by rfl) fun z (p:Kn _ [(a,0)] [(6,.one (.c (.func (.func 77) #[] #[.pointer (some ⟨a,0,none⟩)]))),tS 5 bK l.length bL,tP 3 0 0] _)=>?_
 obtain⟨x7,iX,H⟩:=Ao H
 refine wl fun K hK=>?_
 refine wc [.c (Yb bK l.length bL),.c (.func (.func 77) #[] #[.pointer (some ⟨a,0,none⟩)])] p d (Ed n d.has l dP (fun(y0:AH)=>BD n y0 right) (show Wz b (.func (.func 77) #[] #[.pointer (some ⟨a,0,none⟩)]) (fun(y0:AH)=>BD n y0 right) from fun h2 w2 hle hh y0 cs0 hy0 r H=>⟨77,_,_,rfl,fun _ _=>by kernel_rfl,IN n hh y0 hy0 right (o.mono hle) H⟩) iX) fun aj ad ak m af k=>?_
 obtain rfl:=m
 refine⟨.one (.c (.bool x7)),rfl,fun ab (q:Kn _ [(a,0)] [tB 7 x7,(6,.one (.c (.func (.func 77) #[] #[.pointer (some ⟨a,0,none⟩)]))),tS 5 bK l.length bL,tP 3 0 0] _)=>hK _ _ ?_⟩
 refine Rk 3 2 [tB 4 (!x7)] q k fun ag s=>?_
 refine wf (wp_ret ?_)
 obtain rfl:=XZ H
 exact rt (.one (.c (.bool (!x7)))) s k rfl
abbrev Hl (a):=([(3,.one (.c (.func (.func 39) #[] #[.pointer (some ⟨a,0,none⟩)]))),tP 1 0 0]:TM)
abbrev NM (aB)(t_:An):=([tI 40 aB,tI 39 t_.places,tP 1 0 0]:TM)
theorem KY (n:Nat) {h:Ac} {w:World} (hh:CK h w) (t_:An) {cN:Ye} (dL:rep h t_ cN) {r:Int} (H:DP n t_=some r) :
  Calls Tryz.prog 19 #[.agg cN.toArray] w (CP (fun h v=>v=.int .i64 r) h w):=by
 obtain⟨_,_,rfl,rfl,⟨_,_,rfl,rfl,⟨_,_,rfl,⟨d,f,rfl,m⟩,⟨g,k,rfl,q⟩⟩⟩⟩:=dL
 refine enter 60 [.agg (NW t_ d f g k)] Tryz.func19 rfl rfl rfl rfl fun t hk=>?_
 have hm:=Ai.begin h w hh
 unfold DP at H
 refine XT (Aa (wl fun K hK=>?_))
 refine wb (.agg (NW t_ d f g k)) hk hm fun a dr dt (b5:Kn _ [(a,0)] [tP 1 0 0,tA 0 (NW t_ d f g k)] _) bl=>hK _ _ ?_
 refine Rk 1 1 [tP 1 0 0] b5 bl fun d3 b9=>?_
 refine wf (XT (Aa ?_))
 obtain⟨ac,bj,bd,s⟩:=bl.settlePlc (i:=0) rfl
 replace m:=m.mono bj
 replace q:=q.mono bj
 replace s:Ai _ _ [(a,0)] [⟨NW t_ d f g k,none⟩] [] _:=s
 have y:B9 ac a (t_:An):=B9.of (e:=[(a,0)]) (cs:=(NW t_ d f g k)) ((Ab Ad (Ab Ad (Ab (Af m) (Af q)))):rep ac (t_:An) _) rfl bd
 have aa:As ac a [.int .i64 t_.places,.int .i64 t_.layover,.slice d t_.empty.length f,.slice g t_.trips.length k]:=As.of (e:=[(a,0)]) (cs:=[.int .i64 t_.places,.int .i64 t_.layover,.slice d t_.empty.length f,.slice g t_.trips.length k]) rfl bd
 refine Ey 0 #[] #[.pointer (some ⟨a,0,none⟩)] b9 rfl rfl (rfl) rfl (by decide) (by rfl) (by rfl) (by rfl) (by rfl) fun dn (cn:Kn _ [(a,0)] [(6,.one (.c (.func (.func 39) #[] #[.pointer (some ⟨a,0,none⟩)]))),tP 1 0 0] _)=>?_
 refine Rk 1 1 (Hl a) cn s fun ee co=>?_
 refine wf (XT (wp_block (XT (Aa (Rk 0 5 ((tB 7 (decide (((t_.trips.length:Nat):Int)>12)))::(Hl a)) co s fun ef a3=>?_)))))
 refine wf (wC (decide (((t_.trips.length:Nat):Int)>12)) a3 (fun ax=>?_) (fun ax=>?_))
 ·
  rw [ax,XW] at H
  refine XT (Aa (Rk 0 1 [tI 2 3] a3 s fun eg cp=>?_))
  refine wf (wp_ret ?_)
  obtain rfl:=XZ H
  exact rt (.one (.c (XR 3))) cp s rfl
 rw [ax,XV] at H
 refine XT ?_
 obtain⟨bo,l,H⟩:=Ao H
 refine Ar (fun a' w'=>∃ (a9:Array Value)(ad:Ac),a' = ⟨a9,[]⟩∧Kn 60 [(a,0)] [tP 1 0 0,tB 12 bo] a9∧Ai ⟨w,h,BF⟩ ad [(a,0)] [⟨NW t_ d f g k,none⟩] [] w'∧Ac.le ac ad) ?_ ?_
 ·
  refine Aa (Rk 0 2 ((tI 14 t_.places)::(Hl a)) a3 s fun eh cq=>?_)
  obtain⟨dJ,jH,l⟩:=Ao l
  refine wl fun K hK=>?_
  refine wc [.c (XR t_.places),.c (XR 1),.c (XR 6)] cq s (DV n s.has t_.places 1 6 jH) fun es dx ey bw x ab=>?_
  replace m:=m.mono x
  replace y:=y.mono x
  obtain rfl:=bw
  refine⟨.one (.c (.bool dJ)),rfl,fun dp (cr:Kn _ [(a,0)] ((tB 15 dJ)::(tI 14 t_.places)::(Hl a)) _)=>hK _ _ ?_⟩
  refine Rk 3 2 ((tB 17 (!dJ))::(Hl a)) cr ab fun bs be=>?_
  rcases Y2 ((!dJ)) with af | af
  ·
   rw [af,XW] at l
   have ct:Kn _ _ ((tB 17 true)::(Hl a)) _:=(be.setB 17 true (by rfl) af).kp
   refine Rk 5 21 [tB 12 true,tP 1 0 0] ct ab fun ei cu=>?_
   refine wf ?_
   obtain rfl:=XZ l
   exact XY _ ⟨_,rfl,cu.kp,ab,x⟩
  rw [af,XV] at l
  have cv:Kn _ _ ((tB 17 false)::(Hl a)) _:=(be.setB 17 false (by rfl) af).kp
  refine Rk 5 2 ((tI 19 t_.layover)::(tB 17 false)::(Hl a)) cv ab fun ej bf=>?_
  obtain⟨cL,jY,l⟩:=Ao l
  refine AD _ rfl (Al bf (by kernel_rfl)) fun K hK=>?_
  refine wc [.c (XR t_.layover)] bf ab (Hj n ab.has t_.layover jY) fun et b0 ez bx z u=>?_
  replace m:=m.mono z
  replace y:=y.mono z
  obtain rfl:=bx
  refine⟨.one (.c (.bool cL)),rfl,fun dq (cw:Kn _ [(a,0)] ((tB 20 cL)::(tI 19 t_.layover)::(tB 17 false)::(Hl a)) _)=>hK _ _ ?_⟩
  refine Rk 8 3 ((tB 23 (!cL))::(Hl a)) cw u fun bt bg=>?_
  rcases Y2 ((!cL)) with ag | ag
  ·
   rw [ag,XW] at l
   have cx:Kn _ _ ((tB 23 true)::(Hl a)) _:=(bg.setB 23 true (by rfl) ag).kp
   refine Rk 11 15 [tB 12 true,tP 1 0 0] cx u fun ek cy=>?_
   refine wf ?_
   obtain rfl:=XZ l
   exact XY _ ⟨_,rfl,cy.kp,u,XU x z⟩
  rw [ag,XV] at l
  have cz:Kn _ _ ((tB 23 false)::(Hl a)) _:=(bg.setB 23 false (by rfl) ag).kp
  refine Rk 11 8 ((tB 31 (((t_.empty.length:Nat):Int) != t_.places))::(Hl a)) cz u fun bu bh=>?_
  rcases Y2 ((((t_.empty.length:Nat):Int) != t_.places)) with ah | ah
  ·
   rw [ah,XW] at l
   have c1:Kn _ _ ((tB 31 true)::(Hl a)) _:=(bh.setB 31 true (by rfl) ah).kp
   refine Rk 19 7 [tB 12 true,tP 1 0 0] c1 u fun el c2=>?_
   refine wf ?_
   obtain rfl:=XZ l
   exact XY _ ⟨_,rfl,c2.kp,u,XU x z⟩
  rw [ah,XV] at l
  have c3:Kn _ _ ((tB 31 false)::(Hl a)) _:=(bh.setB 31 false (by rfl) ah).kp
  refine Rk 19 3 [(34,.one (.c (.func (.func 39) #[] #[.pointer (some ⟨a,0,none⟩)]))),tS 33 d t_.empty.length f,tB 31 false,tP 1 0 0] c3 u fun em bi=>?_
  obtain⟨dC,kC,l⟩:=Ao l
  refine AD _ rfl (Al bi (by kernel_rfl)) fun K hK=>?_
  refine wc [.c (Yb d t_.empty.length f),.c (.func (.func 39) #[] #[.pointer (some ⟨a,0,none⟩)])] bi u (NX n u.has t_.empty m (fun(y0:List Int)=>BM n y0 t_) (show Wy b0 (.func (.func 39) #[] #[.pointer (some ⟨a,0,none⟩)]) (fun(y0:List Int)=>BM n y0 t_) from fun h2 w2 hle hh y0 a0 c0 hy0 r H=>⟨39,_,_,rfl,fun _ _=>by kernel_rfl,JD n hh y0 hy0 t_ (y.mono hle) H⟩) kC) fun eu dy e0 bz c8 bn=>?_
  obtain rfl:=bz
  refine⟨.one (.c (.bool dC)),rfl,fun ds (c4:Kn _ [(a,0)] [tB 35 dC,(34,.one (.c (.func (.func 39) #[] #[.pointer (some ⟨a,0,none⟩)]))),tS 33 d t_.empty.length f,tB 31 false,tP 1 0 0] _)=>hK _ _ ?_⟩
  refine Rk 23 3 [tB 12 (!dC),tP 1 0 0] c4 bn fun en c5=>?_
  refine wf ?_
  obtain rfl:=XZ l
  exact XY _ ⟨_,rfl,c5.kp,bn,XU x (XU z c8)⟩
 rintro _ e1 ⟨a9,ad,rfl,a4,an,am⟩
 replace m:=m.mono am
 replace q:=q.mono am
 refine wC (bo) a4 (fun ay=>?_) (fun ay=>?_)
 ·
  rw [Ba ay] at H
  refine XT (Aa (Rk 0 1 [tI 2 1] a4 an fun eo c6=>?_))
  refine wf (wp_ret ?_)
  obtain rfl:=XZ H
  exact rt (.one (.c (XR 1))) c6 an rfl
 rw [Bb ay] at H
 refine wp_skip (XT (XT (Aa (Rk 0 3 [tI 40 0,tI 39 t_.places,tP 1 0 0] a4 an fun ep c7=>?_))))
 refine wf ?_
 obtain⟨bp,bc,H⟩:=Ao H
 refine Ar (fun a' w'=>∃ (br:Unit)(ba:Array Value)(ae:Ac),a' = ⟨ba,[]⟩∧Kn 60 [(a,0)] [tP 1 0 0] ba∧Ai ⟨w,h,BF⟩ ae [(a,0)] [⟨NW t_ d f g k,none⟩] [] w'∧Ac.le ad ae∧bp=.go br) ?_ ?_
 ·
  refine wp_block ?_
  refine Av (fun di a' w'=>∃ (aB:Int)(a8:Array Value)(ar:Ac),a' = ⟨a8,[]⟩∧Kn 60 [(a,0)] (NM aB t_) a8∧Ai ⟨w,h,BF⟩ ar [(a,0)] [⟨NW t_ d f g k,none⟩] [] w'∧Ac.le ad ar∧BW di t_ aB=some bp) n ?_ ?_
  ·
   exact XY 0 ⟨_,_,rfl,c7.kp,an,Ac.le_refl _,bc⟩
  rintro a6 _ ev ⟨aB,a8,ar,rfl,b6,ai,a5,p⟩
  clear bc
  obtain _ | a6:=a6
  ·
   rw [BW] at p; cases p
  rw [BW] at p
  replace m:=m.mono a5
  refine XT (Aa (Rk 0 1 ((tB 41 (decide (aB<t_.places)))::(NM aB t_)) b6 ai fun d0 az=>?_))
  refine wf (XT (wC (decide (aB<t_.places)) az (fun au=>?_) (fun au=>?_)))
  ·
   rw [au,XW] at p
   refine wp_skip (XT (wp_block (XT (Aa (Rk 0 2 ((tI 4 aB)::(NM aB t_)) az ai fun d1 b7=>?_)))))
   refine wf (XT (Aa (Rk 0 3 ((tI 45 aB)::(tS 44 d t_.empty.length f)::(tI 4 aB)::(NM aB t_)) b7 ai fun d2 b8=>?_)))
   obtain⟨x46,ex46,p⟩:=Ao p
   obtain⟨c9,db,dg⟩:=Aj ex46
   obtain⟨ap,a7,du,b1,de,b3⟩:=m.get (by decide) dg
   obtain⟨ao,aq,rfl,dd⟩:=de
   have bm:=ai.addPlc (b:=ap) (o:=a7+Yc aB*1) (cs:=[Yb ao x46.length aq]) (fun j c hj=>b3 j _ (Ak hj)) rfl (by kernel_rfl) (by kernel_rfl)
   refine A9 3 (aB) rfl rfl (rfl) rfl (by decide) b8 (by rfl) (by rfl) (by rfl) b1 (by rfl) c9 db (by kernel_rfl) fun dj (ca:Kn _ [(a,0),(ap,a7+Yc aB*1)] ((tP 46 1 0)::(tI 45 aB)::(tS 44 d t_.empty.length f)::(tI 4 aB)::(NM aB t_)) _)=>?_
   refine Rk 4 2 ((tI 48 aB)::(tS 47 ao x46.length aq)::(NM aB t_)) ca bm fun d4 cb=>?_
   obtain⟨dY,jX,p⟩:=Ao p
   obtain⟨da,dc,dh⟩:=Aj jX
   obtain⟨bb,bq,dv,b2,df,b4⟩:=dd.get (by decide) dh
   obtain rfl:=df
   have aj:=bm.addPlc (b:=bb) (o:=bq+Yc aB*1) (cs:=[XR dY]) (fun j c hj=>b4 j _ (Ak hj)) rfl (by kernel_rfl) (by kernel_rfl)
   refine A9 6 (aB) rfl rfl (rfl) rfl (by decide) cb (by rfl) (by rfl) (by rfl) b2 (by rfl) da dc (by kernel_rfl) fun dk (cc:Kn _ [(a,0),(ap,a7+Yc aB*1),(bb,bq+Yc aB*1)] ((tP 49 2 0)::(tI 48 aB)::(tS 47 ao x46.length aq)::(NM aB t_)) _)=>?_
   refine Rk 7 2 ((tB 51 (dY != 0))::(NM aB t_)) cc aj fun d5 a1=>?_
   refine wf (wC ((dY != 0)) a1 (fun av=>?_) (fun av=>?_))
   ·
    rw [av,XW] at p
    refine XT (Aa (Rk 0 1 [tI 2 1] a1 aj fun d6 cd=>?_))
    refine wf (wp_ret ?_)
    obtain rfl:=XZ p
    obtain rfl:=XZ H
    exact rt (.one (.c (XR 1))) cd aj rfl
   rw [av,XV] at p
   refine wp_skip (Aa (Rk 0 2 [tI 40 (Ya (aB+1)),tI 39 t_.places,tP 1 0 0] a1 aj fun d7 ce=>?_))
   refine wf ?_
   exact XY a6 ⟨Y4 _,XY (Ya (aB+1)) ⟨_,_,rfl,(ce.keep [40,39,1] (by rfl)).cut 1 (by kernel_rfl),aj.cutPl 1 (by kernel_rfl),a5,p⟩⟩
  rw [au,XV] at p
  refine wp_exit ?_
  obtain rfl:=XZ p
  exact XY () ⟨_,_,rfl,az.kp,ai,a5,rfl⟩
 rintro _ ew ⟨br,ba,ae,rfl,cf,ak,bk,rfl⟩
 rw [Ex.bind_go] at H
 replace m:=m.mono bk
 replace q:=q.mono bk
 refine XT (Aa (Rk 0 1 [tA 53 (NW t_ d f g k),tP 1 0 0] cf ak fun d8 cg=>?_))
 refine Ey 1 #[.agg #[.int .i64 t_.places,.int .i64 t_.layover,.slice d t_.empty.length f,.slice g t_.trips.length k]] #[] cg rfl rfl (rfl) rfl (by decide) (by rfl) (by rfl) (by rfl) (by rfl) fun dl (ch:Kn _ [(a,0)] [(54,.one (.c (.func (.func 44) #[.agg #[.int .i64 t_.places,.int .i64 t_.layover,.slice d t_.empty.length f,.slice g t_.trips.length k]] #[]))),tA 53 (NW t_ d f g k),tP 1 0 0] _)=>?_
 refine Rk 2 1 [(5,.one (.c (.func (.func 44) #[.agg #[.int .i64 t_.places,.int .i64 t_.layover,.slice d t_.empty.length f,.slice g t_.trips.length k]] #[]))),tP 1 0 0] ch ak fun d9 ci=>?_
 refine wf (XT (XT (Aa (Rk 0 3 [(57,.one (.c (.func (.func 44) #[.agg #[.int .i64 t_.places,.int .i64 t_.layover,.slice d t_.empty.length f,.slice g t_.trips.length k]] #[]))),tS 56 g t_.trips.length k] ci ak fun ea cj=>?_))))
 obtain⟨gO,kD,H⟩:=Ao H
 refine wl fun K hK=>?_
 refine wc [.c (Yb g t_.trips.length k),.c (.func (.func 44) #[.agg #[.int .i64 t_.places,.int .i64 t_.layover,.slice d t_.empty.length f,.slice g t_.trips.length k]] #[])] cj ak (Kd n ak.has t_.trips q (fun(y0:AH)=>C9 n t_ y0) (show Wz ae (.func (.func 44) #[.agg #[.int .i64 t_.places,.int .i64 t_.layover,.slice d t_.empty.length f,.slice g t_.trips.length k]] #[]) (fun(y0:AH)=>C9 n t_ y0) from fun h2 w2 hle hh y0 cs0 hy0 r H=>⟨44,_,_,rfl,fun _ _=>by kernel_rfl,Mv n hh t_ (Rep.mono hle ((Ab Ad (Ab Ad (Ab (Af m) (Af q)))):rep ae t_ _)) y0 hy0 H⟩) kD) fun er dw ex bv dz al=>?_
 obtain rfl:=bv
 refine⟨.one (.c (.bool gO)),rfl,fun dm (ck:Kn _ [(a,0)] [tB 58 gO,(57,.one (.c (.func (.func 44) #[.agg #[.int .i64 t_.places,.int .i64 t_.layover,.slice d t_.empty.length f,.slice g t_.trips.length k]] #[]))),tS 56 g t_.trips.length k] _)=>hK _ _ ?_⟩
 refine Rk 4 1 [tB 59 (!gO)] ck al fun eb a2=>?_
 refine wf (wC ((!gO)) a2 (fun aw=>?_) (fun aw=>?_))
 ·
  rw [aw,XW] at H
  refine XT (Aa (Rk 0 1 [tI 2 1] a2 al fun ec cl=>?_))
  refine wf (wp_ret ?_)
  obtain rfl:=XZ H
  exact rt (.one (.c (XR 1))) cl al rfl
 rw [aw,XV] at H
 refine wp_skip (XT (Aa (Rk 0 1 [tI 2 0] a2 al fun ed cm=>?_)))
 refine wf (wp_ret ?_)
 obtain rfl:=XZ H
 exact rt (.one (.c (XR 0))) cm al rfl
end Go.Proofs.YtinminkmefljbaaGreat
