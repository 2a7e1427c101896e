/- Each call computes its plain function. -/
import Derived.Test.YtinminkmefljbaaGreatProg
import Derived.Test.YtinminkmefljbaaGreattcP0
set_option linter.all false
namespace Go.Proofs.YtinminkmefljbaaGreat
open Go Go.RowKit
set_option maxRecDepth 100000
set_option maxHeartbeats 4000000
open Rep (rep)
open KRep (kv)
open VRep (rv)
theorem D3 (n:Nat) {h:Ac} {w:World} (hh:CK h w) (n_:Int) (low:Int) (high:Int) {r:Bool} (H:CM n n_ low high=some r) :
  Calls Tryz.prog 53 #[.int .i64 n_,.int .i64 low,.int .i64 high] w (CP (fun h v=>v=.bool r) h w):=by
 refine enter 15 [.c (XR n_),.c (XR low),.c (XR high)] Tryz.func53 rfl rfl rfl rfl fun t hk=>?_
 have hm:=Ai.begin h w hh
 unfold CM at H
 refine XT (Aa (Rk 0 1 [tI 0 n_,tI 1 low,tI 2 high] hk hm fun k f=>?_))
 refine wf (XT (Aa (Rk 0 4 [tB 10 (decide (low≤n_)),tI 0 n_,tI 2 high] f hm fun d b=>?_)))
 rcases Y2 (decide (low≤n_)) with a | a
 ·
  rw [a,XW] at H
  have g:Kn _ _ [tB 10 true,tI 0 n_,tI 2 high] _:=(b.setB 10 true (by rfl) a).kp
  refine Rk 4 5 [tB 6 (decide (n_≤high))] g hm fun m i=>?_
  refine wf (wp_ret ?_)
  obtain rfl:=XZ H
  exact rt (.one (.c (.bool (decide (n_≤high))))) i hm rfl
 rw [a,XV] at H
 have j:Kn _ _ [tB 10 false,tI 0 n_,tI 2 high] _:=(b.setB 10 false (by rfl) a).kp
 refine Rk 4 5 [tB 6 false] j hm fun l e=>?_
 refine wf (wp_ret ?_)
 obtain rfl:=XZ H
 exact rt (.one (.c (.bool false))) e hm rfl
theorem Mf (n:Nat) {h:Ac} {w:World} (hh:CK h w) (x:Int) (q0:Int→Option Bool) {cH:Nat} (fA:B9 h cH q0) {r:Bool} (H:CS n x q0=some r) :
  Calls Tryz.prog 80 #[.int .i64 x,.pointer (some ⟨cH,0,none⟩)] w (CP (fun h v=>v=.bool r) h w):=by
 obtain⟨_,fB,fC⟩:=id fA
 obtain⟨d,a,b,rfl,i⟩:=fB
 refine DZ (e:=[(cH,0)]) 8 [.c (XR x),.c (.ptr 0 0)] Tryz.func80 rfl rfl rfl rfl fun t hk=>?_
 have hm:=Ai.begin h w hh
 replace hm:=hm.addPlc (o:=0) (cs:=[.func d a b]) (fun j c hj=>by rw [Y3]; exact fC j _ (Ak hj)) rfl (by kernel_rfl) (by kernel_rfl)
 replace hm:Ai _ _ [(cH,0)] [⟨[.func d a b],none⟩] [] _:=hm
 unfold CS at H
 refine XT (Aa (Rk 0 1 [tI 0 x,tP 1 0 0] hk hm fun z m=>?_))
 refine wf (XT (Aa (Rk 0 2 [tI 5 x,(4,.one (.c (.func d a b)))] m hm fun aa p=>?_)))
 obtain⟨x6,kS,H⟩:=Ao H
 refine wl fun K hK=>?_
 refine D2 (.func d a b) [.c (XR x)] _ p hm rfl rfl (by decide) (by rfl) (by rfl) rfl (i _ _ (Ac.le_refl _) hm.has x _ kS) fun ab s ac g u f=>?_
 obtain rfl:=g
 refine⟨.one (.c (.bool x6)),rfl,fun q (k:Kn _ [(cH,0)] [tB 6 x6,tI 5 x,(4,.one (.c (.func d a b)))] _)=>hK _ _ ?_⟩
 refine Rk 3 2 [tB 3 (!x6)] k f fun y l=>?_
 refine wf (wp_ret ?_)
 obtain rfl:=XZ H
 exact rt (.one (.c (.bool (!x6)))) l f rfl
abbrev Ks (s:List Int)(dB dD)(bW:Fn)(bX:Array Value)(bY:Array Value):=([tI 7 ((s.length:Nat):Int),tS 0 dB s.length dD,(1,.one (.c (.func bW bX bY)))]:TM)
theorem GK (n:Nat) {h:Ac} {w:World} (hh:CK h w) (s:List Int) {dB:Yd} {dD:Nat} (eW:At h dB dD s) (f:Int→Option Bool) {bW:Fn} {bX bY:Array Value} (fP:UV h (.func bW bX bY) f) {r:Int} (H:BQ n s f=some r) :
  Calls Tryz.prog 99 #[.slice dB s.length dD,.func bW bX bY] w (CP (fun h v=>v=.int .i64 r) h w):=by
 refine enter 19 [.c (Yb dB s.length dD),.c (.func bW bX bY)] Tryz.func99 rfl rfl rfl rfl fun t hk=>?_
 have hm:=Ai.begin h w hh
 unfold BQ at H
 refine XT (Aa (Rk 0 1 [tS 0 dB s.length dD,(1,.one (.c (.func bW bX bY)))] hk hm fun a8 al=>?_))
 refine wf (XT (XT (Aa (Rk 0 3 ((tI 8 0)::(Ks s dB dD bW bX bY)) al hm fun bc ap=>?_))))
 refine wf ?_
 obtain⟨ae,ac,H⟩:=Ao H
 refine Ar (fun a' w'=>∃ (af:Unit)(ab:Array Value)(m:Ac),a' = ⟨ab,[]⟩∧Kn 19 [] [] ab∧Ai ⟨w,h,BF⟩ m [] [] [] w'∧Ac.le h m∧ae=.go af) ?_ ?_
 ·
  refine wp_block ?_
  refine Av (fun a3 a' w'=>∃ (aB:Int)(aa:Array Value)(l:Ac),a' = ⟨aa,[]⟩∧Kn 19 [] ((tI 8 aB)::(Ks s dB dD bW bX bY)) aa∧Ai ⟨w,h,BF⟩ l [] [] [] w'∧Ac.le h l∧AF a3 s f aB=some ae) n ?_ ?_
  ·
   exact XY 0 ⟨_,_,rfl,ap.kp,hm,Ac.le_refl _,ac⟩
  rintro z _ bi ⟨aB,aa,l,rfl,ak,d,g,a⟩
  clear ac
  obtain _ | z:=z
  ·
   rw [AF] at a; cases a
  rw [AF] at a
  replace eW:=eW.mono g
  replace fP:=fP.mono g
  refine XT (Aa (Rk 0 1 ((tB 9 (decide (aB<((s.length:Nat):Int))))::(tI 8 aB)::(Ks s dB dD bW bX bY)) ak d fun a9 u=>?_))
  refine wf (XT (wC (decide (aB<((s.length:Nat):Int))) u (fun p=>?_) (fun p=>?_)))
  ·
   rw [p,XW] at a
   refine wp_skip (XT (wp_block (XT (Aa (Rk 0 2 ((tI 5 aB)::(tI 8 aB)::(Ks s dB dD bW bX bY)) u d fun ba am=>?_)))))
   refine wf (XT (Aa (Rk 0 3 ((tI 13 aB)::(tS 12 dB s.length dD)::(11,.one (.c (.func bW bX bY)))::(tI 5 aB)::(tI 8 aB)::(Ks s dB dD bW bX bY)) am d fun bb an=>?_)))
   obtain⟨cQ,fX,a⟩:=Ao a
   obtain⟨az,a0,a2⟩:=Aj fX
   obtain⟨e,k,a5,ai,a1,aj⟩:=eW.get (by decide) a2
   obtain rfl:=a1
   have y:=d.addPlc (b:=e) (o:=k+Yc aB*1) (cs:=[XR cQ]) (fun j c hj=>aj j _ (Ak hj)) rfl (by kernel_rfl) (by kernel_rfl)
   refine A9 3 (aB) rfl rfl (rfl) rfl (by decide) an (by rfl) (by rfl) (by rfl) ai (by rfl) az a0 (by kernel_rfl) fun a4 (ao:Kn _ [(e,k+Yc aB*1)] ((tP 14 0 0)::(tI 13 aB)::(tS 12 dB s.length dD)::(11,.one (.c (.func bW bX bY)))::(tI 5 aB)::(tI 8 aB)::(Ks s dB dD bW bX bY)) _)=>?_
   refine Rk 4 1 ((tI 15 cQ)::(11,.one (.c (.func bW bX bY)))::(tI 5 aB)::(tI 8 aB)::(Ks s dB dD bW bX bY)) ao y fun bd aq=>?_
   obtain⟨cT,fT,a⟩:=Ao a
   refine wl fun K hK=>?_
   refine D2 (.func bW bX bY) [.c (XR cQ)] _ aq y rfl rfl (by decide) (by rfl) (by rfl) rfl (fP _ _ (Ac.le_refl _) y.has cQ _ fT) fun bh a6 bj ah ay i=>?_
   obtain rfl:=ah
   refine⟨.one (.c (.bool cT)),rfl,fun ag (ar:Kn _ [(e,k+Yc aB*1)] ((tB 16 cT)::(tI 15 cQ)::(11,.one (.c (.func bW bX bY)))::(tI 5 aB)::(tI 8 aB)::(Ks s dB dD bW bX bY)) _)=>hK _ _ ?_⟩
   have x:Kn _ _ ((tB 16 cT)::(tI 5 aB)::(tI 8 aB)::(Ks s dB dD bW bX bY)) _:=ar.kp
   refine wf (wC (cT) x (fun q=>?_) (fun q=>?_))
   ·
    rw [Ba q] at a
    refine XT (Aa (Rk 0 2 [tI 4 aB] x i fun be au=>?_))
    refine wf (wp_ret ?_)
    obtain rfl:=XZ a
    obtain rfl:=XZ H
    exact rt (.one (.c (XR aB))) au i rfl
   rw [Bb q] at a
   refine wp_skip (Aa (Rk 0 2 ((tI 8 (Ya (aB+1)))::(Ks s dB dD bW bX bY)) x i fun bf av=>?_))
   refine wf ?_
   exact XY z ⟨Y4 _,XY (Ya (aB+1)) ⟨_,_,rfl,(av.keep [8,7,0,1] (by rfl)).cut 0 (by kernel_rfl),i.cutPl 0 (by kernel_rfl),XU g ay,a⟩⟩
  rw [p,XV] at a
  refine wp_exit ?_
  obtain rfl:=XZ a
  exact XY () ⟨_,_,rfl,u.kp,d,g,rfl⟩
 rintro _ bk ⟨af,ab,m,rfl,aw,ad,a7,rfl⟩
 rw [Ex.bind_go] at H
 refine XT (Aa (Rk 0 1 [tI 4 (-1)] aw ad fun bg ax=>?_))
 refine wf (wp_ret ?_)
 obtain rfl:=XZ H
 exact rt (.one (.c (XR (-1)))) ax ad rfl
theorem D4 (n:Nat) {h:Ac} {w:World} (hh:CK h w) (s:List Int) {dB:Yd} {dD:Nat} (eW:At h dB dD s) (f:Int→Option Bool) {bW:Fn} {bX bY:Array Value} (fP:UV h (.func bW bX bY) f) {r:Bool} (H:Bf n s f=some r) :
  Calls Tryz.prog 71 #[.slice dB s.length dD,.func bW bX bY] w (CP (fun h v=>v=.bool r) h w):=by
 refine enter 9 [.c (Yb dB s.length dD),.c (.func bW bX bY)] Tryz.func71 rfl rfl rfl rfl fun t hk=>?_
 have hm:=Ai.begin h w hh
 unfold Bf at H
 refine XT (Aa (Rk 0 1 [tS 0 dB s.length dD,(1,.one (.c (.func bW bX bY)))] hk hm fun m g=>?_))
 refine wf (XT (Aa (Rk 0 2 [(6,.one (.c (.func bW bX bY))),tS 5 dB s.length dD] g hm fun p i=>?_)))
 obtain⟨x7,iX,H⟩:=Ao H
 refine wl fun K hK=>?_
 refine wc [.c (Yb dB s.length dD),.c (.func bW bX bY)] i hm (GK n hm.has s eW f fP iX) fun q k u b l a=>?_
 obtain rfl:=b
 refine⟨.one (.c (XR x7)),rfl,fun j (d:Kn _ [] [tI 7 x7,(6,.one (.c (.func bW bX bY))),tS 5 dB s.length dD] _)=>hK _ _ ?_⟩
 refine Rk 3 2 [tB 4 (decide (x7≥0))] d a fun o e=>?_
 refine wf (wp_ret ?_)
 obtain rfl:=XZ H
 exact rt (.one (.c (.bool (decide (x7≥0))))) e a rfl
theorem NT (n:Nat) {h:Ac} {w:World} (hh:CK h w) (l:List Int) {bK:Yd} {bL:Nat} (dP:At h bK bL l) (right:Int→Option Bool) {bM:Fn} {bN bO:Array Value} (dE:UV h (.func bM bN bO) right) {r:Bool} (H:E7 n l right=some r) :
  Calls Tryz.prog 54 #[.slice bK l.length bL,.func bM bN bO] w (CP (fun h v=>v=.bool r) h w):=by
 refine enter 9 [.c (Yb bK l.length bL),.c (.func bM bN bO)] Tryz.func54 rfl rfl rfl rfl fun t hk=>?_
 have hm:=Ai.begin h w hh
 unfold E7 at H
 refine XT (Aa (wl fun K hK=>?_))
 refine wb (.c (.func bM bN bO)) hk hm fun a aa ac (u:Kn _ [(a,0)] [tP 3 0 0,tS 0 bK l.length bL,(1,.one (.c (.func bM bN bO)))] _) f=>hK _ _ ?_
 refine Rk 1 1 [tP 3 0 0,tS 0 bK l.length bL] u f fun ah x=>?_
 refine wf (XT (Aa (Rk 0 1 [tS 5 bK l.length bL,tP 3 0 0] x f fun ai y=>?_)))
 obtain⟨b,j,g,d⟩:=f.settlePlc (i:=0) rfl
 replace dP:=dP.mono j
 replace dE:=dE.mono j
 replace d:Ai _ _ [(a,0)] [⟨[.func bM bN bO],none⟩] [] _:=d
 have o:B9 b a (right:Int→Option Bool):=B9.of (e:=[(a,0)]) (cs:=[.func bM bN bO]) (⟨_,_,_,rfl,dE⟩:rep b (right:Int→Option Bool) _) rfl g
 have ae:As b a [.func bM bN bO]:=As.of (e:=[(a,0)]) (cs:=[.func bM bN bO]) rfl g
 refine Ey 1 #[] #[.pointer (some ⟨a,0,none⟩)] y rfl rfl (rfl) rfl (by decide) (by rfl) (by rfl) (by rfl) (by rfl) fun z (p:Kn _ [(a,0)] [(6,.one (.c (.func (.func 80) #[] #[.pointer (some ⟨a,0,none⟩)]))),tS 5 bK l.length bL,tP 3 0 0] _)=>?_
 obtain⟨x7,iX,H⟩:=Ao H
 refine wl fun K hK=>?_
 refine wc [.c (Yb bK l.length bL),.c (.func (.func 80) #[] #[.pointer (some ⟨a,0,none⟩)])] p d (D4 n d.has l dP (fun(y0:Int)=>CS n y0 right) (show UV b (.func (.func 80) #[] #[.pointer (some ⟨a,0,none⟩)]) (fun(y0:Int)=>CS n y0 right) from fun h2 w2 hle hh y0 r H=>⟨80,_,_,rfl,fun _ _=>by kernel_rfl,Mf n hh y0 right (o.mono hle) H⟩) iX) fun aj ad ak m af k=>?_
 obtain rfl:=m
 refine⟨.one (.c (.bool x7)),rfl,fun ab (q:Kn _ [(a,0)] [tB 7 x7,(6,.one (.c (.func (.func 80) #[] #[.pointer (some ⟨a,0,none⟩)]))),tS 5 bK l.length bL,tP 3 0 0] _)=>hK _ _ ?_⟩
 refine Rk 3 2 [tB 4 (!x7)] q k fun ag s=>?_
 refine wf (wp_ret ?_)
 obtain rfl:=XZ H
 exact rt (.one (.c (.bool (!x7)))) s k rfl
theorem Mg (n:Nat) {h:Ac} {w:World} (hh:CK h w) (b:Cn) {iO:Ye} (jT:rep h b iO) {r:Bool} (H:C2 n b=some r) :
  Calls Tryz.prog 56 #[.agg iO.toArray] w (CP (fun h v=>v=.bool r) h w):=by
 obtain⟨_,_,rfl,rfl,⟨_,_,rfl,rfl,rfl⟩⟩:=jT
 refine enter 18 [.agg [XR b.lo,XR b.hi,XR b.turn]] Tryz.func56 rfl rfl rfl rfl fun t hk=>?_
 have hm:=Ai.begin h w hh
 unfold C2 at H
 refine XT (Aa (wl fun K hK=>?_))
 refine wb (.agg [XR b.lo,XR b.hi,XR b.turn]) hk hm fun d ai az (ab:Kn _ [(d,0)] [tP 1 0 0,tA 0 [XR b.lo,XR b.hi,XR b.turn]] _) g=>hK _ _ ?_
 refine Rk 1 1 [tP 1 0 0] ab g fun au af=>?_
 refine wf (XT (Aa (Rk 0 4 [tI 6 b.hi,tI 4 b.lo,tP 1 0 0] af g fun av ag=>?_)))
 obtain⟨x7,iX,H⟩:=Ao H
 refine wl fun K hK=>?_
 refine wc [.c (XR b.lo),.c (XR 0),.c (XR b.hi)] ag g (D3 n g.has b.lo 0 b.hi iX) fun aw ak ay p am a=>?_
 obtain rfl:=p
 refine⟨.one (.c (.bool x7)),rfl,fun ah (s:Kn _ [(d,0)] [tB 7 x7,tI 6 b.hi,tI 4 b.lo,tP 1 0 0] _)=>hK _ _ ?_⟩
 refine Rk 5 1 [tB 8 x7,tP 1 0 0] s a fun m i=>?_
 rcases Y2 (x7) with e | e
 ·
  rw [Ba e] at H
  have u:Kn _ _ [tB 8 true,tP 1 0 0] _:=(i.setB 8 true (by rfl) e).kp
  refine Rk 6 5 [tB 13 (decide (b.hi≤2000)),tP 1 0 0] u a fun o j=>?_
  rcases Y2 (decide (b.hi≤2000)) with f | f
  ·
   rw [f,XW] at H
   have x:Kn _ _ [tB 13 true,tP 1 0 0] _:=(j.setB 13 true (by rfl) f).kp
   refine Rk 11 2 [tI 15 b.turn,tB 13 true] x a fun ao k=>?_
   obtain⟨cT,fT,H⟩:=Ao H
   refine AD _ rfl (Al k (by kernel_rfl)) fun K hK=>?_
   refine wc [.c (XR b.turn),.c (XR 0),.c (XR 2000)] k a (D3 n a.has b.turn 0 2000 fT) fun ax al a0 q an l=>?_
   obtain rfl:=q
   refine⟨.one (.c (.bool cT)),rfl,fun aj (y:Kn _ [(d,0)] [tB 16 cT,tI 15 b.turn,tB 13 true] _)=>hK _ _ ?_⟩
   refine Rk 14 2 [tB 2 cT] y l fun ap z=>?_
   refine wf (wp_ret ?_)
   obtain rfl:=XZ H
   exact rt (.one (.c (.bool cT))) z l rfl
  rw [f,XV] at H
  have aa:Kn _ _ [tB 13 false,tP 1 0 0] _:=(j.setB 13 false (by rfl) f).kp
  refine Rk 11 5 [tB 2 false] aa a fun aq ac=>?_
  refine wf (wp_ret ?_)
  obtain rfl:=XZ H
  exact rt (.one (.c (.bool false))) ac a rfl
 rw [Bb e] at H
 have ad:Kn _ _ [tB 8 false,tP 1 0 0] _:=(i.setB 8 false (by rfl) e).kp
 refine Rk 6 10 [tB 2 false] ad a fun ar ae=>?_
 refine wf (wp_ret ?_)
 obtain rfl:=XZ H
 exact rt (.one (.c (.bool false))) ae a rfl
abbrev Qs (x:Cn):=([XR x.lo,XR x.hi,XR x.turn]:List SC)
theorem I5 (n:Nat) {h:Ac} {w:World} (hh:CK h w) (x:Cn) {hD:Ye} (jC:rep h x hD) (q0:Cn→Option Bool) {cH:Nat} (fA:B9 h cH q0) {r:Bool} (H:BJ n x q0=some r) :
  Calls Tryz.prog 82 #[.agg hD.toArray,.pointer (some ⟨cH,0,none⟩)] w (CP (fun h v=>v=.bool r) h w):=by
 obtain⟨_,_,rfl,rfl,⟨_,_,rfl,rfl,rfl⟩⟩:=jC
 obtain⟨_,fB,fC⟩:=id fA
 obtain⟨d,a,b,rfl,l⟩:=fB
 refine DZ (e:=[(cH,0)]) 8 [.agg (Qs x),.c (.ptr 0 0)] Tryz.func82 rfl rfl rfl rfl fun t hk=>?_
 have hm:=Ai.begin h w hh
 replace hm:=hm.addPlc (o:=0) (cs:=[.func d a b]) (fun j c hj=>by rw [Y3]; exact fC j _ (Ak hj)) rfl (by kernel_rfl) (by kernel_rfl)
 replace hm:Ai _ _ [(cH,0)] [⟨[.func d a b],none⟩] [] _:=hm
 unfold BJ at H
 refine XT (Aa (wl fun K hK=>?_))
 refine wb (.agg (Qs x)) hk hm fun g z ah (u:Kn _ [(cH,0),(g,0)] [tP 2 1 0,tA 0 (Qs x),tP 1 0 0] _) f=>hK _ _ ?_
 refine Rk 1 1 [tP 2 1 0,tP 1 0 0] u f fun ac m=>?_
 refine wf (XT (Aa (Rk 0 2 [tA 5 (Qs x),(4,.one (.c (.func d a b)))] m f fun ad p=>?_)))
 obtain⟨x6,kS,H⟩:=Ao H
 refine wl fun K hK=>?_
 refine D2 (.func d a b) [.agg (Qs x)] _ p f rfl rfl (by decide) (by rfl) (by rfl) rfl (l _ _ (Ac.le_refl _) f.has x _ ((Ab Ad (Ab Ad Ad)):rep h x _) _ kS) fun af aa ag k ab i=>?_
 obtain rfl:=k
 refine⟨.one (.c (.bool x6)),rfl,fun y (q:Kn _ [(cH,0),(g,0)] [tB 6 x6,tA 5 (Qs x),(4,.one (.c (.func d a b)))] _)=>hK _ _ ?_⟩
 refine Rk 3 2 [tB 3 (!x6)] q i fun ae s=>?_
 refine wf (wp_ret ?_)
 obtain rfl:=XZ H
 exact rt (.one (.c (.bool (!x6)))) s i rfl
abbrev H8 (s:List Cn)(dB dD)(bW:Fn)(bX:Array Value)(bY:Array Value):=([tI 7 ((s.length:Nat):Int),tS 0 dB s.length dD,(1,.one (.c (.func bW bX bY)))]:TM)
theorem EF (n:Nat) {h:Ac} {w:World} (hh:CK h w) (s:List Cn) {dB:Yd} {dD:Nat} (eW:At h dB dD s) (f:Cn→Option Bool) {bW:Fn} {bX bY:Array Value} (fP:Wx h (.func bW bX bY) f) {r:Int} (H:Bw n s f=some r) :
  Calls Tryz.prog 106 #[.slice dB s.length dD,.func bW bX bY] w (CP (fun h v=>v=.int .i64 r) h w):=by
 refine enter 19 [.c (Yb dB s.length dD),.c (.func bW bX bY)] Tryz.func106 rfl rfl rfl rfl fun t hk=>?_
 have hm:=Ai.begin h w hh
 unfold Bw at H
 refine XT (Aa (Rk 0 1 [tS 0 dB s.length dD,(1,.one (.c (.func bW bX bY)))] hk hm fun a8 al=>?_))
 refine wf (XT (XT (Aa (Rk 0 3 ((tI 8 0)::(H8 s dB dD bW bX bY)) al hm fun bc ap=>?_))))
 refine wf ?_
 obtain⟨ae,ac,H⟩:=Ao H
 refine Ar (fun a' w'=>∃ (af:Unit)(ab:Array Value)(m:Ac),a' = ⟨ab,[]⟩∧Kn 19 [] [] ab∧Ai ⟨w,h,BF⟩ m [] [] [] w'∧Ac.le h m∧ae=.go af) ?_ ?_
 ·
  refine wp_block ?_
  refine Av (fun a3 a' w'=>∃ (aB:Int)(aa:Array Value)(g:Ac),a' = ⟨aa,[]⟩∧Kn 19 [] ((tI 8 aB)::(H8 s dB dD bW bX bY)) aa∧Ai ⟨w,h,BF⟩ g [] [] [] w'∧Ac.le h g∧AA a3 s f aB=some ae) n ?_ ?_
  ·
   exact XY 0 ⟨_,_,rfl,ap.kp,hm,Ac.le_refl _,ac⟩
  rintro z _ bi ⟨aB,aa,g,rfl,ak,d,i,a⟩
  clear ac
  obtain _ | z:=z
  ·
   rw [AA] at a; cases a
  rw [AA] at a
  replace eW:=eW.mono i
  replace fP:=fP.mono i
  refine XT (Aa (Rk 0 1 ((tB 9 (decide (aB<((s.length:Nat):Int))))::(tI 8 aB)::(H8 s dB dD bW bX bY)) ak d fun a9 u=>?_))
  refine wf (XT (wC (decide (aB<((s.length:Nat):Int))) u (fun p=>?_) (fun p=>?_)))
  ·
   rw [p,XW] at a
   refine wp_skip (XT (wp_block (XT (Aa (Rk 0 2 ((tI 5 aB)::(tI 8 aB)::(H8 s dB dD bW bX bY)) u d fun ba am=>?_)))))
   refine wf (XT (Aa (Rk 0 3 ((tI 13 aB)::(tS 12 dB s.length dD)::(11,.one (.c (.func bW bX bY)))::(tI 5 aB)::(tI 8 aB)::(H8 s dB dD bW bX bY)) am d fun bb an=>?_)))
   obtain⟨cQ,fX,a⟩:=Ao a
   obtain⟨az,a0,a2⟩:=Aj fX
   obtain⟨e,l,a5,ai,a1,aj⟩:=eW.get (by decide) a2
   obtain⟨_,_,rfl,rfl,⟨_,_,rfl,rfl,rfl⟩⟩:=a1
   have y:=d.addPlc (b:=e) (o:=l+Yc aB*3) (cs:=(Qs cQ)) (fun j c hj=>aj j _ (Ak hj)) rfl (by kernel_rfl) (by kernel_rfl)
   refine A9 3 (aB) rfl rfl (rfl) rfl (by decide) an (by rfl) (by rfl) (by rfl) ai (by rfl) az a0 (by kernel_rfl) fun a4 (ao:Kn _ [(e,l+Yc aB*3)] ((tP 14 0 0)::(tI 13 aB)::(tS 12 dB s.length dD)::(11,.one (.c (.func bW bX bY)))::(tI 5 aB)::(tI 8 aB)::(H8 s dB dD bW bX bY)) _)=>?_
   refine Rk 4 1 ((tA 15 (Qs cQ))::(11,.one (.c (.func bW bX bY)))::(tI 5 aB)::(tI 8 aB)::(H8 s dB dD bW bX bY)) ao y fun bd aq=>?_
   obtain⟨cT,fT,a⟩:=Ao a
   refine wl fun K hK=>?_
   refine D2 (.func bW bX bY) [.agg (Qs cQ)] _ aq y rfl rfl (by decide) (by rfl) (by rfl) rfl (fP _ _ (Ac.le_refl _) y.has cQ _ ((Ab Ad (Ab Ad Ad)):rep g cQ _) _ fT) fun bh a6 bj ah ay k=>?_
   obtain rfl:=ah
   refine⟨.one (.c (.bool cT)),rfl,fun ag (ar:Kn _ [(e,l+Yc aB*3)] ((tB 16 cT)::(tA 15 (Qs cQ))::(11,.one (.c (.func bW bX bY)))::(tI 5 aB)::(tI 8 aB)::(H8 s dB dD bW bX bY)) _)=>hK _ _ ?_⟩
   have x:Kn _ _ ((tB 16 cT)::(tI 5 aB)::(tI 8 aB)::(H8 s dB dD bW bX bY)) _:=ar.kp
   refine wf (wC (cT) x (fun q=>?_) (fun q=>?_))
   ·
    rw [Ba q] at a
    refine XT (Aa (Rk 0 2 [tI 4 aB] x k fun be au=>?_))
    refine wf (wp_ret ?_)
    obtain rfl:=XZ a
    obtain rfl:=XZ H
    exact rt (.one (.c (XR aB))) au k rfl
   rw [Bb q] at a
   refine wp_skip (Aa (Rk 0 2 ((tI 8 (Ya (aB+1)))::(H8 s dB dD bW bX bY)) x k fun bf av=>?_))
   refine wf ?_
   exact XY z ⟨Y4 _,XY (Ya (aB+1)) ⟨_,_,rfl,(av.keep [8,7,0,1] (by rfl)).cut 0 (by kernel_rfl),k.cutPl 0 (by kernel_rfl),XU i ay,a⟩⟩
  rw [p,XV] at a
  refine wp_exit ?_
  obtain rfl:=XZ a
  exact XY () ⟨_,_,rfl,u.kp,d,i,rfl⟩
 rintro _ bk ⟨af,ab,m,rfl,aw,ad,a7,rfl⟩
 rw [Ex.bind_go] at H
 refine XT (Aa (Rk 0 1 [tI 4 (-1)] aw ad fun bg ax=>?_))
 refine wf (wp_ret ?_)
 obtain rfl:=XZ H
 exact rt (.one (.c (XR (-1)))) ax ad rfl
theorem Ea (n:Nat) {h:Ac} {w:World} (hh:CK h w) (s:List Cn) {dB:Yd} {dD:Nat} (eW:At h dB dD s) (f:Cn→Option Bool) {bW:Fn} {bX bY:Array Value} (fP:Wx h (.func bW bX bY) f) {r:Bool} (H:Bg n s f=some r) :
  Calls Tryz.prog 81 #[.slice dB s.length dD,.func bW bX bY] w (CP (fun h v=>v=.bool r) h w):=by
 refine enter 9 [.c (Yb dB s.length dD),.c (.func bW bX bY)] Tryz.func81 rfl rfl rfl rfl fun t hk=>?_
 have hm:=Ai.begin h w hh
 unfold Bg at H
 refine XT (Aa (Rk 0 1 [tS 0 dB s.length dD,(1,.one (.c (.func bW bX bY)))] hk hm fun m g=>?_))
 refine wf (XT (Aa (Rk 0 2 [(6,.one (.c (.func bW bX bY))),tS 5 dB s.length dD] g hm fun p i=>?_)))
 obtain⟨x7,iX,H⟩:=Ao H
 refine wl fun K hK=>?_
 refine wc [.c (Yb dB s.length dD),.c (.func bW bX bY)] i hm (EF n hm.has s eW f fP iX) fun q k u b l a=>?_
 obtain rfl:=b
 refine⟨.one (.c (XR x7)),rfl,fun j (d:Kn _ [] [tI 7 x7,(6,.one (.c (.func bW bX bY))),tS 5 dB s.length dD] _)=>hK _ _ ?_⟩
 refine Rk 3 2 [tB 4 (decide (x7≥0))] d a fun o e=>?_
 refine wf (wp_ret ?_)
 obtain rfl:=XZ H
 exact rt (.one (.c (.bool (decide (x7≥0))))) e a rfl
theorem J2 (n:Nat) {h:Ac} {w:World} (hh:CK h w) (l:List Cn) {bK:Yd} {bL:Nat} (dP:At h bK bL l) (right:Cn→Option Bool) {bM:Fn} {bN bO:Array Value} (dE:Wx h (.func bM bN bO) right) {r:Bool} (H:CC n l right=some r) :
  Calls Tryz.prog 55 #[.slice bK l.length bL,.func bM bN bO] w (CP (fun h v=>v=.bool r) h w):=by
 refine enter 9 [.c (Yb bK l.length bL),.c (.func bM bN bO)] Tryz.func55 rfl rfl rfl rfl fun t hk=>?_
 have hm:=Ai.begin h w hh
 unfold CC at H
 refine XT (Aa (wl fun K hK=>?_))
 refine wb (.c (.func bM bN bO)) hk hm fun a aa ac (u:Kn _ [(a,0)] [tP 3 0 0,tS 0 bK l.length bL,(1,.one (.c (.func bM bN bO)))] _) f=>hK _ _ ?_
 refine Rk 1 1 [tP 3 0 0,tS 0 bK l.length bL] u f fun ah x=>?_
 refine wf (XT (Aa (Rk 0 1 [tS 5 bK l.length bL,tP 3 0 0] x f fun ai y=>?_)))
 obtain⟨b,j,g,d⟩:=f.settlePlc (i:=0) rfl
 replace dP:=dP.mono j
 replace dE:=dE.mono j
 replace d:Ai _ _ [(a,0)] [⟨[.func bM bN bO],none⟩] [] _:=d
 have o:B9 b a (right:Cn→Option Bool):=B9.of (e:=[(a,0)]) (cs:=[.func bM bN bO]) (⟨_,_,_,rfl,dE⟩:rep b (right:Cn→Option Bool) _) rfl g
 have ae:As b a [.func bM bN bO]:=As.of (e:=[(a,0)]) (cs:=[.func bM bN bO]) rfl g
 refine Ey 1 #[] #[.pointer (some ⟨a,0,none⟩)] y rfl rfl (rfl) rfl (by decide) (by rfl) (by rfl) (by rfl) (by rfl) fun z (p:Kn _ [(a,0)] [(6,.one (.c (.func (.func 82) #[] #[.pointer (some ⟨a,0,none⟩)]))),tS 5 bK l.length bL,tP 3 0 0] _)=>?_
 obtain⟨x7,iX,H⟩:=Ao H
 refine wl fun K hK=>?_
 refine wc [.c (Yb bK l.length bL),.c (.func (.func 82) #[] #[.pointer (some ⟨a,0,none⟩)])] p d (Ea n d.has l dP (fun(y0:Cn)=>BJ n y0 right) (show Wx b (.func (.func 82) #[] #[.pointer (some ⟨a,0,none⟩)]) (fun(y0:Cn)=>BJ n y0 right) from fun h2 w2 hle hh y0 cs0 hy0 r H=>⟨82,_,_,rfl,fun _ _=>by kernel_rfl,I5 n hh y0 hy0 right (o.mono hle) H⟩) iX) fun aj ad ak m af k=>?_
 obtain rfl:=m
 refine⟨.one (.c (.bool x7)),rfl,fun ab (q:Kn _ [(a,0)] [tB 7 x7,(6,.one (.c (.func (.func 82) #[] #[.pointer (some ⟨a,0,none⟩)]))),tS 5 bK l.length bL,tP 3 0 0] _)=>hK _ _ ?_⟩
 refine Rk 3 2 [tB 4 (!x7)] q k fun ag s=>?_
 refine wf (wp_ret ?_)
 obtain rfl:=XZ H
 exact rt (.one (.c (.bool (!x7)))) s k rfl
theorem J3 (n:Nat) {h:Ac} {w:World} (hh:CK h w) (n_:Int) {r:Bool} (H:Ch n n_=some r) :
  Calls Tryz.prog 52 #[.int .i64 n_] w (CP (fun h v=>v=.bool r) h w):=by
 refine enter 5 [.c (XR n_)] Tryz.func52 rfl rfl rfl rfl fun t hk=>?_
 have hm:=Ai.begin h w hh
 unfold Ch at H
 refine XT (Aa (Rk 0 1 [tI 0 n_] hk hm fun l f=>?_))
 refine wf (XT (Aa (Rk 0 1 [tI 3 n_] f hm fun o g=>?_)))
 obtain⟨x4,ex4,H⟩:=Ao H
 refine wl fun K hK=>?_
 refine wc [.c (XR n_),.c (XR 0),.c (XR 8)] g hm (D3 n hm.has n_ 0 8 ex4) fun p j q b k a=>?_
 obtain rfl:=b
 refine⟨.one (.c (.bool x4)),rfl,fun i (d:Kn _ [] [tB 4 x4,tI 3 n_] _)=>hK _ _ ?_⟩
 refine Rk 2 1 [tB 2 x4] d a fun m e=>?_
 refine wf (wp_ret ?_)
 obtain rfl:=XZ H
 exact rt (.one (.c (.bool x4))) e a rfl
abbrev Ue (a q)(s:Nat)(aB:Int)(u):=([(a,0),(q,s+Yc aB*3),(u,0)]:AJ)
abbrev Hx (y:Am)(d e f):=([tI 45 ((y.lG.length:Nat):Int),tS 44 d y.lG.length e,(4,.one (.c (.map (some f))))]:TM)
abbrev Hy:TM:=[(3,.one (.c (.func (.func 52) #[] #[]))),tP 1 0 0]
theorem Fm (n:Nat) {h:Ac} {w:World} (hh:CK h w) (y:Am) {dQ:Ye} (eD:rep h y dQ) {r:Int} (H:CE n y=some r) :
  Calls Tryz.prog 25 #[.agg dQ.toArray] w (CP (fun h v=>v=.int .i64 r) h w):=by
 obtain⟨_,_,rfl,⟨i,l,rfl,z⟩,⟨_,_,rfl,⟨d,e,rfl,p⟩,rfl⟩⟩:=eD
 refine enter 58 [.agg (Mh i y l d e)] Tryz.func25 rfl rfl rfl rfl fun t hk=>?_
 have hm:=Ai.begin h w hh
 unfold CE at H
 refine XT (Aa (wl fun K hK=>?_))
 refine wb (.agg (Mh i y l d e)) hk hm fun a dx e4 (cg:Kn _ [(a,0)] [tP 1 0 0,tA 0 (Mh i y l d e)] _) ac=>hK _ _ ?_
 refine Rk 1 1 [tP 1 0 0] cg ac fun d8 cl=>?_
 refine wf (XT (Aa (Rk 0 1 Hy cl ac fun ea cp=>?_)))
 refine wf (XT (wp_block (XT ?_)))
 obtain⟨bz,an,H⟩:=Ao H
 refine Ar (fun a' w'=>∃ (be:Array Value)(aq:Ac),a' = ⟨be,[]⟩∧Kn 58 [(a,0)] [(3,.one (.c (.func (.func 52) #[] #[]))),tP 1 0 0,tB 7 bz] be∧Ai ⟨w,h,BF⟩ aq [(a,0)] [⟨Mh i y l d e,some 51⟩] [] w'∧Ac.le h aq) ?_ ?_
 ·
  refine Aa (Rk 0 5 ((tB 12 (decide (((y.room.length:Nat):Int)>3)))::Hy) cp ac fun b3 bj=>?_)
  rcases Y2 (decide (((y.room.length:Nat):Int)>3)) with ah | ah
  ·
   rw [ah,XW] at an
   have c2:Kn _ _ ((tB 12 true)::Hy) _:=(bj.setB 12 true (by rfl) ah).kp
   refine Rk 5 6 ((tB 7 true)::Hy) c2 ac fun eg c3=>?_
   refine wf ?_
   obtain rfl:=XZ an
   exact XY _ ⟨_,rfl,c3.kp,ac,Ac.le_refl _⟩
  rw [ah,XV] at an
  have c4:Kn _ _ ((tB 12 false)::Hy) _:=(bj.setB 12 false (by rfl) ah).kp
  refine Rk 5 6 ((tB 7 (decide (((y.lG.length:Nat):Int)>8)))::Hy) c4 ac fun eh c5=>?_
  refine wf ?_
  obtain rfl:=XZ an
  exact XY _ ⟨_,rfl,c5.kp,ac,Ac.le_refl _⟩
 rintro _ e0 ⟨be,aq,rfl,a3,aa,bq⟩
 replace z:=z.mono bq
 replace p:=p.mono bq
 refine wC (bz) a3 (fun az=>?_) (fun az=>?_)
 ·
  rw [Ba az] at H
  refine XT (Aa (Rk 0 1 [tI 2 3] a3 aa fun ei c6=>?_))
  refine wf (wp_ret ?_)
  obtain rfl:=XZ H
  exact rt (.one (.c (XR 3))) c6 aa rfl
 rw [Bb az] at H
 refine XT ?_
 obtain⟨ba,g,H⟩:=Ao H
 refine Ar (fun a' w'=>∃ (bf:Array Value)(ab:Ac),a' = ⟨bf,[]⟩∧Kn 58 [(a,0)] [tP 1 0 0,tB 18 ba] bf∧Ai ⟨w,h,BF⟩ ab [(a,0)] [⟨Mh i y l d e,some 51⟩] [] w'∧Ac.le aq ab) ?_ ?_
 ·
  refine Aa (Rk 0 5 ((tB 23 (((y.room.length:Nat):Int) == 0))::Hy) a3 aa fun b4 bk=>?_)
  rcases Y2 ((((y.room.length:Nat):Int) == 0)) with ai | ai
  ·
   rw [ai,XW] at g
   have c7:Kn _ _ ((tB 23 true)::Hy) _:=(bk.setB 23 true (by rfl) ai).kp
   refine Rk 5 19 [tB 18 true,tP 1 0 0] c7 aa fun ej c8=>?_
   refine wf ?_
   obtain rfl:=XZ g
   exact XY _ ⟨_,rfl,c8.kp,aa,Ac.le_refl _⟩
  rw [ai,XV] at g
  have c9:Kn _ _ ((tB 23 false)::Hy) _:=(bk.setB 23 false (by rfl) ai).kp
  refine Rk 5 2 ((tI 25 y.broken)::(tB 23 false)::Hy) c9 aa fun ek bl=>?_
  obtain⟨cJ,gD,g⟩:=Ao g
  refine AD _ rfl (Al bl (by kernel_rfl)) fun K hK=>?_
  refine wc [.c (XR y.broken),.c (XR 0),.c (XR 2)] bl aa (D3 n aa.has y.broken 0 2 gD) fun et cc e1 b9 al ae=>?_
  replace z:=z.mono al
  replace p:=p.mono al
  obtain rfl:=b9
  refine⟨.one (.c (.bool cJ)),rfl,fun dv (da:Kn _ [(a,0)] ((tB 26 cJ)::(tI 25 y.broken)::(tB 23 false)::Hy) _)=>hK _ _ ?_⟩
  refine Rk 8 3 ((tB 29 (!cJ))::Hy) da ae fun b5 bm=>?_
  rcases Y2 ((!cJ)) with aj | aj
  ·
   rw [aj,XW] at g
   have db:Kn _ _ ((tB 29 true)::Hy) _:=(bm.setB 29 true (by rfl) aj).kp
   refine Rk 11 13 [tB 18 true,tP 1 0 0] db ae fun el dc=>?_
   refine wf ?_
   obtain rfl:=XZ g
   exact XY _ ⟨_,rfl,dc.kp,ae,al⟩
  rw [aj,XV] at g
  have dd:Kn _ _ ((tB 29 false)::Hy) _:=(bm.setB 29 false (by rfl) aj).kp
  refine Rk 11 3 [(32,.one (.c (.func (.func 52) #[] #[]))),tS 31 i y.room.length l,tB 29 false,tP 1 0 0] dd ae fun em bn=>?_
  obtain⟨fU,jD,g⟩:=Ao g
  refine AD _ rfl (Al bn (by kernel_rfl)) fun K hK=>?_
  refine wc [.c (Yb i y.room.length l),.c (.func (.func 52) #[] #[])] bn ae (NT n ae.has y.room z (fun(y0:Int)=>Ch n y0) (show UV cc (.func (.func 52) #[] #[]) (fun(y0:Int)=>Ch n y0) from fun h2 w2 hle hh y0 r H=>⟨52,_,_,rfl,fun _ _=>by kernel_rfl,J3 n hh y0 H⟩) jD) fun eu cd e2 ca ar af=>?_
  replace p:=p.mono ar
  obtain rfl:=ca
  refine⟨.one (.c (.bool fU)),rfl,fun dw (de:Kn _ [(a,0)] [tB 33 fU,(32,.one (.c (.func (.func 52) #[] #[]))),tS 31 i y.room.length l,tB 29 false,tP 1 0 0] _)=>hK _ _ ?_⟩
  refine Rk 15 3 [tB 36 (!fU),tP 1 0 0] de af fun b6 bo=>?_
  rcases Y2 ((!fU)) with ak | ak
  ·
   rw [ak,XW] at g
   have df:Kn _ _ [tB 36 true,tP 1 0 0] _:=(bo.setB 36 true (by rfl) ak).kp
   refine Rk 18 6 [tB 18 true,tP 1 0 0] df af fun en dg=>?_
   refine wf ?_
   obtain rfl:=XZ g
   exact XY _ ⟨_,rfl,dg.kp,af,XU al ar⟩
  rw [ak,XV] at g
  have dh:Kn _ _ [tB 36 false,tP 1 0 0] _:=(bo.setB 36 false (by rfl) ak).kp
  refine Rk 18 2 [tS 38 d y.lG.length e,tB 36 false,tP 1 0 0] dh af fun eo bp=>?_
  obtain⟨fO,jU,g⟩:=Ao g
  refine AD _ rfl (Al bp (by kernel_rfl)) fun K hK=>?_
  refine wc [.c (Yb d y.lG.length e),.c (.func (.func 56) #[] #[])] bp af (J2 n af.has y.lG p (fun(y0:Cn)=>C2 n y0) (show Wx cd (.func (.func 56) #[] #[]) (fun(y0:Cn)=>C2 n y0) from fun h2 w2 hle hh y0 cs0 hy0 r H=>⟨56,_,_,rfl,fun _ _=>by kernel_rfl,Mg n hh y0 hy0 H⟩) jU) fun ev d4 e3 cb dl bv=>?_
  obtain rfl:=cb
  refine⟨.one (.c (.bool fO)),rfl,fun dy (di:Kn _ [(a,0)] [tB 39 fO,tS 38 d y.lG.length e,tB 36 false,tP 1 0 0] _)=>hK _ _ ?_⟩
  refine Rk 21 3 [tB 18 (!fO),tP 1 0 0] di bv fun ep dj=>?_
  refine wf ?_
  obtain rfl:=XZ g
  exact XY _ ⟨_,rfl,dj.kp,bv,XU al (XU ar dl)⟩
 rintro _ d0 ⟨bf,ab,rfl,a4,a8,br⟩
 replace p:=p.mono br
 refine wC (ba) a4 (fun a0=>?_) (fun a0=>?_)
 ·
  rw [Ba a0] at H
  refine XT (Aa (Rk 0 1 [tI 2 1] a4 a8 fun er dk=>?_))
  refine wf (wp_ret ?_)
  obtain rfl:=XZ H
  exact rt (.one (.c (XR 1))) dk a8 rfl
 rw [Bb a0] at H
 refine wp_skip (XT (Aa (wl fun K hK=>?_)))
 refine KI a4 a8 rfl rfl (by decide) fun f dt d3 (ch:Kn _ [(a,0)] [(42,.one (.c (.map (some f)))),tP 1 0 0,tB 18 ba] _) (a6:Ai _ _ [(a,0)] [⟨Mh i y l d e,some 51⟩] [] _)=>?_
 have b8:Cy ab (#[]:Array MapEntry).toList 0 ([]:List (Int×Bool)):=Cy.nil
 refine hK _ _ ?_
 refine Rk 1 1 [(4,.one (.c (.map (some f)))),tP 1 0 0] ch a6 fun d6 ci=>?_
 refine wf (XT (XT (Aa (Rk 0 4 ((tI 46 0)::(Hx y d e f)) ci a6 fun d7 cj=>?_))))
 refine wf ?_
 obtain⟨bx,bh,H⟩:=Ao H
 refine Ar (fun a' w'=>∃ (bb:List (Int×Bool))(av:Array MapEntry)(au:Nat)(bc:Array Value)(ap:Ac),a' = ⟨bc,[]⟩∧Kn 58 [(a,0)] [] bc∧Ai (Fr.put ⟨w,h,BF⟩ f (some (.map av au))) ap [(a,0)] [⟨Mh i y l d e,some 51⟩] [] w'∧Ac.le ab ap∧Cy ap av.toList au bb∧bx=.go bb) ?_ ?_
 ·
  refine wp_block ?_
  refine Av (fun ds a' w'=>∃ (aB:Int)(aA:List (Int×Bool))(ao:Array MapEntry)(am:Nat)(bd:Array Value)(ag:Ac),a' = ⟨bd,[]⟩∧Kn 58 [(a,0)] ((tI 46 aB)::(Hx y d e f)) bd∧Ai (Fr.put ⟨w,h,BF⟩ f (some (.map ao am))) ag [(a,0)] [⟨Mh i y l d e,some 51⟩] [] w'∧Ac.le ab ag∧Cy ag ao.toList am aA∧BU ds y aB aA=some bx) n ?_ ?_
  ·
   exact XY 0 ⟨([]:List (Int×Bool)),#[],0,_,_,rfl,cj.kp,a6,Ac.le_refl _,b8,bh⟩
  rintro a9 _ ew ⟨aB,aA,ao,am,bd,ag,rfl,ck,a7,a5,aw,m⟩
  clear bh
  obtain _ | a9:=a9
  ·
   rw [BU] at m; cases m
  rw [BU] at m
  replace p:=p.mono a5
  refine XT (Aa (Rk 0 1 ((tB 47 (decide (aB<((y.lG.length:Nat):Int))))::(tI 46 aB)::(Hx y d e f)) ck a7 fun d9 a1=>?_))
  refine wf (XT (wC (decide (aB<((y.lG.length:Nat):Int))) a1 (fun ax=>?_) (fun ax=>?_)))
  ·
   rw [ax,XW] at m
   refine wp_skip (XT (wp_block (XT (Aa ?_))))
   obtain⟨fN,jE,m⟩:=Ao m
   obtain⟨dn,dp,dr⟩:=Aj jE
   obtain⟨q,s,d1,ce,dq,cf⟩:=p.get (by decide) dr
   obtain⟨_,_,rfl,rfl,⟨_,_,rfl,rfl,rfl⟩⟩:=dq
   have bs:=a7.addPlc (b:=q) (o:=s+Yc aB*3) (cs:=(Qs fN)) (fun j c hj=>cf j _ (Ak hj)) rfl (by kernel_rfl) (by kernel_rfl)
   refine A9 0 (aB) rfl rfl (rfl) rfl (by decide) a1 (by rfl) (by rfl) (by rfl) ce (by rfl) dn dp (by kernel_rfl) fun du (cm:Kn _ [(a,0),(q,s+Yc aB*3)] ((tP 48 1 0)::(tB 47 (decide (aB<((y.lG.length:Nat):Int))))::(tI 46 aB)::(Hx y d e f)) _)=>?_
   refine Rk 1 1 ((tA 49 (Qs fN))::(tI 46 aB)::(Hx y d e f)) cm bs fun eb cn=>?_
   refine wl fun K hK=>?_
   refine wa [XR 0,XR 0,XR 0] cn bs fun u b0 ex (co:Kn _ (Ue a q s aB u) ((tP 6 2 0)::(tA 49 (Qs fN))::(tI 46 aB)::(Hx y d e f)) _) dm=>hK _ _ ?_
   refine wl fun K hK=>?_
   refine DT 2 0 (.agg (Qs fN)) (Qs fN) co dm fun ey cq ad=>hK _ _ ?_
   have cr:Kn _ _ ((tP 6 2 0)::(tI 46 aB)::(Hx y d e f)) _:=cq.kp
   refine wf (XT (XT (Aa (Rk 0 3 ((tI 52 fN.turn)::(50,.one (.c (.map (some f))))::(tP 6 2 0)::(tI 46 aB)::(Hx y d e f)) cr ad fun ec ct=>?_))))
   obtain⟨x53,ex53,m⟩:=Ao m
   refine wl fun K hK=>?_
   refine HV (KT:=3) (E:=4) (k:=(fN.turn:Int)) (false:Bool) (.c (XR fN.turn)) ct rfl rfl (by decide) (by rfl) (by rfl) (by kernel_rfl) (KL.int (by kernel_rfl)) (ad.ext (Fr.put_X _ _ _)) aw rfl (by kernel_rfl) rfl fun es bw=>?_
   rw [XZ ex53] at bw ⊢
   obtain rfl:=bw
   refine⟨.one (.c (.bool x53.1)),rfl,fun b1 (cu:Kn _ (Ue a q s aB u) ((tB 53 x53.1)::(tI 52 fN.turn)::(50,.one (.c (.map (some f))))::(tP 6 2 0)::(tI 46 aB)::(Hx y d e f)) _)=>hK _ _ ?_⟩
   have a2:Kn _ _ ((tB 53 x53.1)::(tP 6 2 0)::(tI 46 aB)::(Hx y d e f)) _:=cu.kp
   refine wf (wC (x53.1) a2 (fun ay=>?_) (fun ay=>?_))
   ·
    rw [Ba ay] at m
    refine XT (Aa (Rk 0 1 [tI 2 1] a2 ad fun ed cv=>?_))
    refine wf (wp_ret ?_)
    obtain rfl:=XZ m
    obtain rfl:=XZ H
    exact rt (.one (.c (XR 1))) cv ad rfl
   rw [Bb ay] at m
   refine wp_skip (Aa (Rk 0 3 ((tI 56 fN.turn)::(54,.one (.c (.map (some f))))::(tI 46 aB)::(Hx y d e f)) a2 ad fun b2 cw=>?_))
   refine wl fun K hK=>?_
   refine KN (KT:=3) (E:=4) (k:=(fN.turn:Int)) (x:=(true:Bool)) (.c (XR fN.turn)) (.c (.bool true)) cw ad rfl rfl (by rfl) (by rfl) (by rfl) (by kernel_rfl) (KL.int (by kernel_rfl)) aw rfl rfl fun bi bg dz b7 (cx:Kn _ (Ue a q s aB u) ((tI 56 fN.turn)::(54,.one (.c (.map (some f))))::(tI 46 aB)::(Hx y d e f)) _) (bt:Ai _ _ (Ue a q s aB u) [⟨Mh i y l d e,some 51⟩,⟨Qs fN,none⟩,⟨Qs fN,some 62⟩] [] _)=>hK _ _ ?_
   have cy:Kn _ _ ((tI 46 aB)::(Hx y d e f)) _:=cx.kp
   refine wf (Aa (Rk 0 2 ((tI 46 (Ya (aB+1)))::(Hx y d e f)) cy bt fun ee cz=>?_))
   refine wf ?_
   exact XY a9 ⟨Y4 _,XY (Ya (aB+1)) ⟨Hp aA fN.turn true,bi,bg,_,_,rfl,(cz.keep [46,45,44,4] (by rfl)).cut 1 (by kernel_rfl),bt.cutPl 1 (by kernel_rfl),a5,b7,m⟩⟩
  rw [ax,XV] at m
  refine wp_exit ?_
  obtain rfl:=XZ m
  exact XY aA ⟨ao,am,_,_,rfl,a1.kp,a7,a5,aw,rfl⟩
 rintro _ ez ⟨bb,av,au,bc,ap,rfl,c0,bu,d5,d2,rfl⟩
 rw [Ex.bind_go] at H
 refine XT (Aa (Rk 0 1 [tI 2 0] c0 bu fun ef c1=>?_))
 refine wf (wp_ret ?_)
 obtain rfl:=XZ H
 exact rt (.one (.c (XR 0))) c1 bu rfl
theorem Dy (n:Nat) {h:Ac} {w:World} (hh:CK h w) (s:List Int) {dB:Yd} {dD:Nat} (eW:At h dB dD s) {r:List Int} (H:BB n s=some r) :
  Calls Tryz.prog 27 #[.slice dB s.length dD] w (VI (fun h v rs=>∃ (j:Yd)(k:Nat)(p:Ye),v=.slice j r.length k∧rs=[⟨j,r.length,k,3,1,p,0⟩]∧Ae h r p) h w):=by
 refine enter 8 [.c (Yb dB s.length dD)] Tryz.func27 rfl rfl rfl rfl fun t hk=>?_
 have hm:=Ai.begin h w hh
 unfold BB at H
 refine XT (Aa (Rk 0 1 [tS 0 dB s.length dD] hk hm fun ak ab=>?_))
 refine wf (XT (XT (Aa (Rk 0 2 [tB 4 dB.isNone,tS 0 dB s.length dD] ab hm fun am f=>?_))))
 refine wf (wC (dB.isNone) f (fun l=>?_) (fun l=>?_))
 ·
  obtain rfl:=At.isNil eW (by decide) l
  replace H:some ([]:List Int)=some r:=by simpa [Ih] using H
  refine XT (Aa (Rk 0 1 [tS 2 none 0 0] f hm fun ao ae=>?_))
  refine wf (wp_ret ?_)
  have ag:Ai _ _ [] [] [⟨none,0,0,3,1,([]:Ye),0⟩] _:=hm.nilRow 3 1
  obtain rfl:=XZ H
  exact Og (.one (.c (Yb none 0 0))) [0] ae ag (by kernel_rfl) (by kernel_rfl) (by kernel_rfl) ⟨_,_,_,rfl,rfl,Ae.nil⟩
 refine wp_skip (XT (Aa (wl fun K hK=>?_)))
 refine wS 3 1 [] f hm fun d ai ap (z:Kn _ [] [tS 5 d 0 0,tB 4 dB.isNone,tS 0 dB s.length dD] _) g=>?_
 have u:Ae h ([]:List Int) ([]:Ye):=Ae.nil
 refine hK _ _ ?_
 refine Rk 1 1 [tS 6 dB s.length dD,tS 5 d 0 0] z g fun al aa=>?_
 obtain⟨o,a,ah,_⟩:=id eW
 obtain⟨x7,iX,H⟩:=Ao H
 obtain⟨i,af⟩:=Bj iX
 refine wl fun K hK=>?_
 refine AS 0 8 s.length _ (x7.length) _ o aa g rfl rfl (by decide) rfl (by rfl) (by kernel_rfl) (by rfl) (by rfl) (Ae.len a) (ah.cell g.has a.one) a.one (by rw [i]; simp <;> omega) (by rw [i]; exact af) (by decide) fun b e q aj aq y (ac:Kn _ [] [tS 7 b x7.length e,tS 6 dB s.length dD,tS 5 d 0 0] _) m=>?_
 have x:Ae h x7 (([]:Ye)++o):=by rw [i]; exact Ae.append u a
 obtain rfl:q=0:=Nat.le_zero.1 y
 refine hK _ _ ?_
 refine Rk 3 1 [tS 2 b x7.length e] ac m fun an ad=>?_
 refine wf (wp_ret ?_)
 obtain rfl:=XZ H
 exact Og (.one (.c (Yb b x7.length e))) [0] ad m (by kernel_rfl) (by kernel_rfl) (by kernel_rfl) ⟨_,_,_,rfl,rfl,x⟩
end Go.Proofs.YtinminkmefljbaaGreat
