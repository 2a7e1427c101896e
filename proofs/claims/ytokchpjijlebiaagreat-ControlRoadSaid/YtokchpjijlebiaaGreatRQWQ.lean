/- Each call computes its plain function. -/
import Derived.Test.YtokchpjijlebiaaGreatProg
import Derived.Test.YtokchpjijlebiaaGreatRQWP
set_option linter.all false
namespace Go.Proofs.YtokchpjijlebiaaGreat
open Go Go.RowKit
set_option maxRecDepth 100000
set_option maxHeartbeats 4000000
open Rep (rep)
open KRep (kv)
open VRep (rv)
theorem HM (n:Nat) {h:Ae} {w:World} (hh:Dk h w) (b:CW) {iG:Wx} (kJ:rep h b iG) (q0:Af) {bV:Nat} (dB:CY h bV q0) {r:Bool} (H:BD n b q0=some r) :
  Calls Tryz.prog 62 #[.agg iG.toArray,.pointer (some ⟨bV,0,none⟩)] w (Dq (fun h v=>v=.bool r) h w):=by
 obtain⟨_,_,rfl,rfl,⟨_,_,rfl,rfl,rfl⟩⟩:=kJ
 obtain⟨_,eX,eY⟩:=id dB
 obtain⟨_,_,rfl,⟨a,g,rfl,u⟩,⟨_,_,rfl,⟨_,_,rfl,rfl,rfl⟩,⟨_,_,rfl,⟨d,i,rfl,x⟩,⟨_,_,rfl,⟨f,k,rfl,y⟩,⟨_,_,rfl,rfl,⟨_,_,rfl,rfl,⟨_,_,rfl,rfl,rfl⟩⟩⟩⟩⟩⟩⟩:=eX
 refine HL (e:=[(bV,0)]) 13 [.agg [Ws b.stop,Ws b.tm.lo,Ws b.tm.hi],.c (.ptr 0 0)] Tryz.func62 rfl rfl rfl rfl fun t hk=>?_
 have hm:=Ah.begin h w hh
 replace hm:=hm.addPlc (o:=0) (cs:=(Wp q0 a g d i f k)) (fun j c hj=>by rw [Xa]; exact eY j _ (Ak hj)) rfl (by kernel_rfl) (by kernel_rfl)
 replace hm:Ah ⟨w,h,A6⟩ h [(bV,0)] [⟨UB a q0 g d i f k,none⟩] [] w:=hm
 unfold BD at H
 refine XT (Aa (wl fun K hK=>?_))
 refine wb (.agg [Ws b.stop,Ws b.tm.lo,Ws b.tm.hi]) hk hm fun m ap a3 (ag:Kn 13 [(bV,0),(m,0)] [tP 2 1 0,tA 0 [Ws b.stop,Ws b.tm.lo,Ws b.tm.hi],tP 1 0 0] ap) s=>hK _ _ ?_
 refine Rk 1 1 [tP 2 1 0,tP 1 0 0] ag s fun aw ah=>?_
 refine wf (XT (Aa (Rk 0 3 [tI 6 b.stop,tA 4 (UB a q0 g d i f k),tP 2 1 0] ah s fun ax ai=>?_)))
 obtain⟨x7,fL,H⟩:=Av H
 refine wl fun K hK=>?_
 refine wc [.agg (UB a q0 g d i f k),.c (Ws b.stop)] ai s (Dn n s.has q0 ((Ab (Ad u) (Ab (Ab Ac Ac) (Ab (Ad x) (Ab (Ad y) (Ab Ac (Ab Ac (Ab Ac Ac))))))):rep h q0 _) b.stop fL) fun a1 af a4 ad q l=>?_
 replace u:=u.mono q
 replace x:=x.mono q
 replace y:=y.mono q
 replace dB:=dB.mono q
 obtain rfl:=ad
 refine⟨.one (.c (.bool x7)),rfl,fun aq (aj:Kn 13 [(bV,0),(m,0)] [tB 7 x7,tI 6 b.stop,tA 4 (UB a q0 g d i f k),tP 2 1 0] aq)=>hK _ _ ?_⟩
 refine Rk 4 1 [tB 8 x7,tP 2 1 0] aj l fun ac z=>?_
 rcases Xb (x7) with p | p
 ·
  rw [p,XW] at H
  have ak:Kn 13 [(bV,0),(m,0)] [tB 8 true,tP 2 1 0] ac:=(z.setB 8 true (by rfl) p).kp
  refine Rk 5 2 [tA 10 [Ws b.tm.lo,Ws b.tm.hi],tB 8 true] ak l fun ay aa=>?_
  obtain⟨cW,fZ,H⟩:=Av H
  refine Bi _ rfl (Aj aa (by kernel_rfl)) fun K hK=>?_
  refine wc [.agg [Ws b.tm.lo,Ws b.tm.hi],.c (Ws 2000)] aa l (FV n l.has b.tm ((Ab Ac Ac):rep af b.tm _) 2000 fZ) fun a2 au a5 ae av ab=>?_
  obtain rfl:=ae
  refine⟨.one (.c (.bool cW)),rfl,fun ar (al:Kn 13 [(bV,0),(m,0)] [tB 11 cW,tA 10 [Ws b.tm.lo,Ws b.tm.hi],tB 8 true] ar)=>hK _ _ ?_⟩
  refine Rk 8 2 [tB 3 cW] al ab fun az am=>?_
  refine wf (wp_ret ?_)
  obtain rfl:=XZ H
  exact rt (.one (.c (.bool cW))) am ab rfl
 ·
  rw [p,XV] at H
  have an:Kn 13 [(bV,0),(m,0)] [tB 8 false,tP 2 1 0] ac:=(z.setB 8 false (by rfl) p).kp
  refine Rk 5 5 [tB 3 false] an l fun a0 ao=>?_
  refine wf (wp_ret ?_)
  obtain rfl:=XZ H
  exact rt (.one (.c (.bool false))) ao l rfl
theorem HN (n:Nat) {h:Ae} {w:World} (hh:Dk h w) (s:AK) {cs_s:Wx} (hx_s:rep h s cs_s) (q0:Af) {bV:Nat} (dB:CY h bV q0) {r:Bool} (H:BE n s q0=some r) :
  Calls Tryz.prog 64 #[.agg cs_s.toArray,.pointer (some ⟨bV,0,none⟩)] w (Dq (fun h v=>v=.bool r) h w):=by
 obtain⟨_,_,rfl,rfl,rfl⟩:=hx_s
 obtain⟨_,eX,eY⟩:=id dB
 obtain⟨_,_,rfl,⟨a,f,rfl,u⟩,⟨_,_,rfl,⟨_,_,rfl,rfl,rfl⟩,⟨_,_,rfl,⟨b,g,rfl,x⟩,⟨_,_,rfl,⟨d,i,rfl,y⟩,⟨_,_,rfl,rfl,⟨_,_,rfl,rfl,⟨_,_,rfl,rfl,rfl⟩⟩⟩⟩⟩⟩⟩:=eX
 refine HL (e:=[(bV,0)]) 13 [.agg [Ws s.stop,Ws s.tm],.c (.ptr 0 0)] Tryz.func64 rfl rfl rfl rfl fun t hk=>?_
 have hm:=Ah.begin h w hh
 replace hm:=hm.addPlc (o:=0) (cs:=(Wp q0 a f b g d i)) (fun j c hj=>by rw [Xa]; exact eY j _ (Ak hj)) rfl (by kernel_rfl) (by kernel_rfl)
 replace hm:Ah ⟨w,h,A6⟩ h [(bV,0)] [⟨UB a q0 f b g d i,none⟩] [] w:=hm
 unfold BE at H
 refine XT (Aa (wl fun K hK=>?_))
 refine wb (.agg [Ws s.stop,Ws s.tm]) hk hm fun l ao a3 (af:Kn 13 [(bV,0),(l,0)] [tP 2 1 0,tA 0 [Ws s.stop,Ws s.tm],tP 1 0 0] ao) q=>hK _ _ ?_
 refine Rk 1 1 [tP 2 1 0,tP 1 0 0] af q fun aw ag=>?_
 refine wf (XT (Aa (Rk 0 3 [tI 6 s.stop,tA 4 (UB a q0 f b g d i),tP 2 1 0] ag q fun ax ah=>?_)))
 obtain⟨x7,fL,H⟩:=Av H
 refine wl fun K hK=>?_
 refine wc [.agg (UB a q0 f b g d i),.c (Ws s.stop)] ah q (Dn n q.has q0 ((Ab (Ad u) (Ab (Ab Ac Ac) (Ab (Ad x) (Ab (Ad y) (Ab Ac (Ab Ac (Ab Ac Ac))))))):rep h q0 _) s.stop fL) fun a1 ar a4 ad p k=>?_
 replace u:=u.mono p
 replace x:=x.mono p
 replace y:=y.mono p
 replace dB:=dB.mono p
 obtain rfl:=ad
 refine⟨.one (.c (.bool x7)),rfl,fun ap (ai:Kn 13 [(bV,0),(l,0)] [tB 7 x7,tI 6 s.stop,tA 4 (UB a q0 f b g d i),tP 2 1 0] ap)=>hK _ _ ?_⟩
 refine Rk 4 1 [tB 8 x7,tP 2 1 0] ai k fun ac z=>?_
 rcases Xb (x7) with m | m
 ·
  rw [m,XW] at H
  have aj:Kn 13 [(bV,0),(l,0)] [tB 8 true,tP 2 1 0] ac:=(z.setB 8 true (by rfl) m).kp
  refine Rk 5 2 [tI 10 s.tm,tB 8 true] aj k fun ay aa=>?_
  obtain⟨cW,fZ,H⟩:=Av H
  refine Bi _ rfl (Aj aa (by kernel_rfl)) fun K hK=>?_
  refine wc [.c (Ws s.tm)] aa k (E6 n k.has s.tm fZ) fun a2 au a5 ae av ab=>?_
  obtain rfl:=ae
  refine⟨.one (.c (.bool cW)),rfl,fun aq (ak:Kn 13 [(bV,0),(l,0)] [tB 11 cW,tI 10 s.tm,tB 8 true] aq)=>hK _ _ ?_⟩
  refine Rk 8 2 [tB 3 cW] ak ab fun az al=>?_
  refine wf (wp_ret ?_)
  obtain rfl:=XZ H
  exact rt (.one (.c (.bool cW))) al ab rfl
 ·
  rw [m,XV] at H
  have am:Kn 13 [(bV,0),(l,0)] [tB 8 false,tP 2 1 0] ac:=(z.setB 8 false (by rfl) m).kp
  refine Rk 5 5 [tB 3 false] am k fun a0 an=>?_
  refine wf (wp_ret ?_)
  obtain rfl:=XZ H
  exact rt (.one (.c (.bool false))) an k rfl
abbrev K8 (s:List Rg)(bY cB)(bE:Fn)(bF:Array Value)(bG:Array Value):=([tI 7 ((s.length:Nat):Int),tS 0 bY s.length cB,(1,.one (.c (.func bE bF bG)))]:TM)
theorem D2 (n:Nat) {h:Ae} {w:World} (hh:Dk h w) (s:List Rg) {bY:Ww} {cB:Nat} (dT:A4 h bY cB s) (f:Rg→Option Bool) {bE:Fn} {bF bG:Array Value} (eZ:Vf h (.func bE bF bG) f) {r:Int} (H:AN n s f=some r) :
  Calls Tryz.prog 94 #[.slice bY s.length cB,.func bE bF bG] w (Dq (fun h v=>v=.int .i64 r) h w):=by
 refine enter 19 [.c (Wu bY s.length cB),.c (.func bE bF bG)] Tryz.func94 rfl rfl rfl rfl fun t hk=>?_
 have hm:=Ah.begin h w hh
 unfold AN at H
 refine XT (Aa (Rk 0 1 [tS 0 bY s.length cB,(1,.one (.c (.func bE bF bG)))] hk hm fun a8 al=>?_))
 refine wf (XT (XT (Aa (Rk 0 3 ((tI 8 0)::(K8 s bY cB bE bF bG)) al hm fun bc ap=>?_))))
 refine wf ?_
 obtain⟨ae,ac,H⟩:=Av H
 refine A0 (fun a' w'=>∃ (af:Unit)(ab:Array Value)(m:Ae),a' = ⟨ab,[]⟩∧Kn 19 [] [] ab∧Ah ⟨w,h,A6⟩ m [] [] [] w'∧Ae.le h m∧ae=.go af) ?_ ?_
 ·
  refine wp_block ?_
  refine Au (fun a3 a' w'=>∃ (aA:Int)(aa:Array Value)(g:Ae),a' = ⟨aa,[]⟩∧Kn 19 [] ((tI 8 aA)::(K8 s bY cB bE bF bG)) aa∧Ah ⟨w,h,A6⟩ g [] [] [] w'∧Ae.le h g∧As a3 s f aA=some ae) n ?_ ?_
  ·
   exact XY 0 ⟨_,_,rfl,ap.kp,hm,Ae.le_refl _,ac⟩
  ·
   rintro z _ bi ⟨aA,aa,g,rfl,ak,d,i,a⟩
   clear ac
   obtain _ | z:=z
   ·
    rw [As] at a; cases a
   rw [As] at a
   replace dT:=dT.mono i
   replace eZ:=eZ.mono i
   refine XT (Aa (Rk 0 1 ((tB 9 (decide (aA<((s.length:Nat):Int))))::(tI 8 aA)::(K8 s bY cB bE bF bG)) ak d fun a9 u=>?_))
   refine wf (XT (wC (decide (aA<((s.length:Nat):Int))) u (fun p=>?_) (fun p=>?_)))
   ·
    rw [p,XW] at a
    refine wp_skip (XT (wp_block (XT (Aa (Rk 0 2 ((tI 5 aA)::(tI 8 aA)::(K8 s bY cB bE bF bG)) u d fun ba am=>?_)))))
    refine wf (XT (Aa (Rk 0 3 ((tI 13 aA)::(tS 12 bY s.length cB)::(11,.one (.c (.func bE bF bG)))::(tI 5 aA)::(tI 8 aA)::(K8 s bY cB bE bF bG)) am d fun bb an=>?_)))
    obtain⟨cN,fV,a⟩:=Av a
    obtain⟨az,a0,a2⟩:=Ai fV
    obtain⟨e,l,a5,ai,a1,aj⟩:=dT.get (by decide) a2
    obtain⟨_,_,rfl,rfl,rfl⟩:=a1
    have y:=d.addPlc (b:=e) (o:=l+Wv aA*2) (cs:=[Ws cN.lo,Ws cN.hi]) (fun j c hj=>aj j _ (Ak hj)) rfl (by kernel_rfl) (by kernel_rfl)
    refine Bl 3 (aA) rfl rfl (rfl) rfl (by decide) an (by rfl) (by rfl) (by rfl) ai (by rfl) az a0 (by kernel_rfl) fun a4 (ao:Kn 19 [(e,l+Wv aA*2)] ((tP 14 0 0)::(tI 13 aA)::(tS 12 bY s.length cB)::(11,.one (.c (.func bE bF bG)))::(tI 5 aA)::(tI 8 aA)::(K8 s bY cB bE bF bG)) a4)=>?_
    refine Rk 4 1 ((tA 15 [Ws cN.lo,Ws cN.hi])::(11,.one (.c (.func bE bF bG)))::(tI 5 aA)::(tI 8 aA)::(K8 s bY cB bE bF bG)) ao y fun bd aq=>?_
    obtain⟨cH,eV,a⟩:=Av a
    refine wl fun K hK=>?_
    refine D1 (.func bE bF bG) [.agg [Ws cN.lo,Ws cN.hi]] _ aq y rfl rfl (by decide) (by rfl) (by rfl) rfl (eZ _ _ (Ae.le_refl _) y.has cN _ ((Ab Ac Ac):rep g cN _) _ eV) fun bh a6 bj ah ay k=>?_
    obtain rfl:=ah
    refine⟨.one (.c (.bool cH)),rfl,fun ag (ar:Kn 19 [(e,l+Wv aA*2)] ((tB 16 cH)::(tA 15 [Ws cN.lo,Ws cN.hi])::(11,.one (.c (.func bE bF bG)))::(tI 5 aA)::(tI 8 aA)::(K8 s bY cB bE bF bG)) ag)=>hK _ _ ?_⟩
    have x:Kn 19 [(e,l+Wv aA*2)] ((tB 16 cH)::(tI 5 aA)::(tI 8 aA)::(K8 s bY cB bE bF bG)) ag:=ar.kp
    refine wf (wC (cH) x (fun q=>?_) (fun q=>?_))
    ·
     rw [q,XW] at a
     refine XT (Aa (Rk 0 2 [tI 4 aA] x k fun be au=>?_))
     refine wf (wp_ret ?_)
     obtain rfl:=XZ a
     obtain rfl:=XZ H
     exact rt (.one (.c (Ws aA))) au k rfl
    ·
     rw [q,XV] at a
     refine wp_skip (Aa (Rk 0 2 ((tI 8 (Wt (aA+1)))::(K8 s bY cB bE bF bG)) x k fun bf av=>?_))
     refine wf ?_
     exact XY z ⟨Xc _,XY (Wt (aA+1)) ⟨_,_,rfl,(av.keep [8,7,0,1] (by rfl)).cut 0 (by kernel_rfl),k.cutPl 0 (by kernel_rfl),XU i ay,a⟩⟩
   ·
    rw [p,XV] at a
    refine wp_exit ?_
    obtain rfl:=XZ a
    exact XY () ⟨_,_,rfl,u.kp,d,i,rfl⟩
 ·
  rintro _ bk ⟨af,ab,m,rfl,aw,ad,a7,rfl⟩
  rw [Ex.bind_go] at H
  refine XT (Aa (Rk 0 1 [tI 4 (-1)] aw ad fun bg ax=>?_))
  refine wf (wp_ret ?_)
  obtain rfl:=XZ H
  exact rt (.one (.c (Ws (-1)))) ax ad rfl
abbrev K9 (s:List CW)(bY cB)(bE:Fn)(bF:Array Value)(bG:Array Value):=([tI 7 ((s.length:Nat):Int),tS 0 bY s.length cB,(1,.one (.c (.func bE bF bG)))]:TM)
theorem DP (n:Nat) {h:Ae} {w:World} (hh:Dk h w) (s:List CW) {bY:Ww} {cB:Nat} (dT:A4 h bY cB s) (f:CW→Option Bool) {bE:Fn} {bF bG:Array Value} (eZ:Vg h (.func bE bF bG) f) {r:Int} (H:Bf n s f=some r) :
  Calls Tryz.prog 95 #[.slice bY s.length cB,.func bE bF bG] w (Dq (fun h v=>v=.int .i64 r) h w):=by
 refine enter 19 [.c (Wu bY s.length cB),.c (.func bE bF bG)] Tryz.func95 rfl rfl rfl rfl fun t hk=>?_
 have hm:=Ah.begin h w hh
 unfold Bf at H
 refine XT (Aa (Rk 0 1 [tS 0 bY s.length cB,(1,.one (.c (.func bE bF bG)))] hk hm fun a8 al=>?_))
 refine wf (XT (XT (Aa (Rk 0 3 ((tI 8 0)::(K9 s bY cB bE bF bG)) al hm fun bc ap=>?_))))
 refine wf ?_
 obtain⟨ae,ac,H⟩:=Av H
 refine A0 (fun a' w'=>∃ (af:Unit)(ab:Array Value)(m:Ae),a' = ⟨ab,[]⟩∧Kn 19 [] [] ab∧Ah ⟨w,h,A6⟩ m [] [] [] w'∧Ae.le h m∧ae=.go af) ?_ ?_
 ·
  refine wp_block ?_
  refine Au (fun a3 a' w'=>∃ (aA:Int)(aa:Array Value)(g:Ae),a' = ⟨aa,[]⟩∧Kn 19 [] ((tI 8 aA)::(K9 s bY cB bE bF bG)) aa∧Ah ⟨w,h,A6⟩ g [] [] [] w'∧Ae.le h g∧A1 a3 s f aA=some ae) n ?_ ?_
  ·
   exact XY 0 ⟨_,_,rfl,ap.kp,hm,Ae.le_refl _,ac⟩
  ·
   rintro z _ bi ⟨aA,aa,g,rfl,ak,d,i,a⟩
   clear ac
   obtain _ | z:=z
   ·
    rw [A1] at a; cases a
   rw [A1] at a
   replace dT:=dT.mono i
   replace eZ:=eZ.mono i
   refine XT (Aa (Rk 0 1 ((tB 9 (decide (aA<((s.length:Nat):Int))))::(tI 8 aA)::(K9 s bY cB bE bF bG)) ak d fun a9 u=>?_))
   refine wf (XT (wC (decide (aA<((s.length:Nat):Int))) u (fun p=>?_) (fun p=>?_)))
   ·
    rw [p,XW] at a
    refine wp_skip (XT (wp_block (XT (Aa (Rk 0 2 ((tI 5 aA)::(tI 8 aA)::(K9 s bY cB bE bF bG)) u d fun ba am=>?_)))))
    refine wf (XT (Aa (Rk 0 3 ((tI 13 aA)::(tS 12 bY s.length cB)::(11,.one (.c (.func bE bF bG)))::(tI 5 aA)::(tI 8 aA)::(K9 s bY cB bE bF bG)) am d fun bb an=>?_)))
    obtain⟨cN,fV,a⟩:=Av a
    obtain⟨az,a0,a2⟩:=Ai fV
    obtain⟨e,l,a5,ai,a1,aj⟩:=dT.get (by decide) a2
    obtain⟨_,_,rfl,rfl,⟨_,_,rfl,rfl,rfl⟩⟩:=a1
    have y:=d.addPlc (b:=e) (o:=l+Wv aA*3) (cs:=(Nz cN)) (fun j c hj=>aj j _ (Ak hj)) rfl (by kernel_rfl) (by kernel_rfl)
    refine Bl 3 (aA) rfl rfl (rfl) rfl (by decide) an (by rfl) (by rfl) (by rfl) ai (by rfl) az a0 (by kernel_rfl) fun a4 (ao:Kn 19 [(e,l+Wv aA*3)] ((tP 14 0 0)::(tI 13 aA)::(tS 12 bY s.length cB)::(11,.one (.c (.func bE bF bG)))::(tI 5 aA)::(tI 8 aA)::(K9 s bY cB bE bF bG)) a4)=>?_
    refine Rk 4 1 ((tA 15 (Nz cN))::(11,.one (.c (.func bE bF bG)))::(tI 5 aA)::(tI 8 aA)::(K9 s bY cB bE bF bG)) ao y fun bd aq=>?_
    obtain⟨cH,eV,a⟩:=Av a
    refine wl fun K hK=>?_
    refine D1 (.func bE bF bG) [.agg (Nz cN)] _ aq y rfl rfl (by decide) (by rfl) (by rfl) rfl (eZ _ _ (Ae.le_refl _) y.has cN _ ((Ab Ac (Ab Ac Ac)):rep g cN _) _ eV) fun bh a6 bj ah ay k=>?_
    obtain rfl:=ah
    refine⟨.one (.c (.bool cH)),rfl,fun ag (ar:Kn 19 [(e,l+Wv aA*3)] ((tB 16 cH)::(tA 15 (Nz cN))::(11,.one (.c (.func bE bF bG)))::(tI 5 aA)::(tI 8 aA)::(K9 s bY cB bE bF bG)) ag)=>hK _ _ ?_⟩
    have x:Kn 19 [(e,l+Wv aA*3)] ((tB 16 cH)::(tI 5 aA)::(tI 8 aA)::(K9 s bY cB bE bF bG)) ag:=ar.kp
    refine wf (wC (cH) x (fun q=>?_) (fun q=>?_))
    ·
     rw [q,XW] at a
     refine XT (Aa (Rk 0 2 [tI 4 aA] x k fun be au=>?_))
     refine wf (wp_ret ?_)
     obtain rfl:=XZ a
     obtain rfl:=XZ H
     exact rt (.one (.c (Ws aA))) au k rfl
    ·
     rw [q,XV] at a
     refine wp_skip (Aa (Rk 0 2 ((tI 8 (Wt (aA+1)))::(K9 s bY cB bE bF bG)) x k fun bf av=>?_))
     refine wf ?_
     exact XY z ⟨Xc _,XY (Wt (aA+1)) ⟨_,_,rfl,(av.keep [8,7,0,1] (by rfl)).cut 0 (by kernel_rfl),k.cutPl 0 (by kernel_rfl),XU i ay,a⟩⟩
   ·
    rw [p,XV] at a
    refine wp_exit ?_
    obtain rfl:=XZ a
    exact XY () ⟨_,_,rfl,u.kp,d,i,rfl⟩
 ·
  rintro _ bk ⟨af,ab,m,rfl,aw,ad,a7,rfl⟩
  rw [Ex.bind_go] at H
  refine XT (Aa (Rk 0 1 [tI 4 (-1)] aw ad fun bg ax=>?_))
  refine wf (wp_ret ?_)
  obtain rfl:=XZ H
  exact rt (.one (.c (Ws (-1)))) ax ad rfl
abbrev KA (s:List AK)(bY cB)(bE:Fn)(bF:Array Value)(bG:Array Value):=([tI 7 ((s.length:Nat):Int),tS 0 bY s.length cB,(1,.one (.c (.func bE bF bG)))]:TM)
theorem D3 (n:Nat) {h:Ae} {w:World} (hh:Dk h w) (s:List AK) {bY:Ww} {cB:Nat} (dT:A4 h bY cB s) (f:AK→Option Bool) {bE:Fn} {bF bG:Array Value} (eZ:Vh h (.func bE bF bG) f) {r:Int} (H:AO n s f=some r) :
  Calls Tryz.prog 96 #[.slice bY s.length cB,.func bE bF bG] w (Dq (fun h v=>v=.int .i64 r) h w):=by
 refine enter 19 [.c (Wu bY s.length cB),.c (.func bE bF bG)] Tryz.func96 rfl rfl rfl rfl fun t hk=>?_
 have hm:=Ah.begin h w hh
 unfold AO at H
 refine XT (Aa (Rk 0 1 [tS 0 bY s.length cB,(1,.one (.c (.func bE bF bG)))] hk hm fun a8 al=>?_))
 refine wf (XT (XT (Aa (Rk 0 3 ((tI 8 0)::(KA s bY cB bE bF bG)) al hm fun bc ap=>?_))))
 refine wf ?_
 obtain⟨ae,ac,H⟩:=Av H
 refine A0 (fun a' w'=>∃ (af:Unit)(ab:Array Value)(m:Ae),a' = ⟨ab,[]⟩∧Kn 19 [] [] ab∧Ah ⟨w,h,A6⟩ m [] [] [] w'∧Ae.le h m∧ae=.go af) ?_ ?_
 ·
  refine wp_block ?_
  refine Au (fun a3 a' w'=>∃ (aA:Int)(aa:Array Value)(g:Ae),a' = ⟨aa,[]⟩∧Kn 19 [] ((tI 8 aA)::(KA s bY cB bE bF bG)) aa∧Ah ⟨w,h,A6⟩ g [] [] [] w'∧Ae.le h g∧At a3 s f aA=some ae) n ?_ ?_
  ·
   exact XY 0 ⟨_,_,rfl,ap.kp,hm,Ae.le_refl _,ac⟩
  ·
   rintro z _ bi ⟨aA,aa,g,rfl,ak,d,i,a⟩
   clear ac
   obtain _ | z:=z
   ·
    rw [At] at a; cases a
   rw [At] at a
   replace dT:=dT.mono i
   replace eZ:=eZ.mono i
   refine XT (Aa (Rk 0 1 ((tB 9 (decide (aA<((s.length:Nat):Int))))::(tI 8 aA)::(KA s bY cB bE bF bG)) ak d fun a9 u=>?_))
   refine wf (XT (wC (decide (aA<((s.length:Nat):Int))) u (fun p=>?_) (fun p=>?_)))
   ·
    rw [p,XW] at a
    refine wp_skip (XT (wp_block (XT (Aa (Rk 0 2 ((tI 5 aA)::(tI 8 aA)::(KA s bY cB bE bF bG)) u d fun ba am=>?_)))))
    refine wf (XT (Aa (Rk 0 3 ((tI 13 aA)::(tS 12 bY s.length cB)::(11,.one (.c (.func bE bF bG)))::(tI 5 aA)::(tI 8 aA)::(KA s bY cB bE bF bG)) am d fun bb an=>?_)))
    obtain⟨cN,fV,a⟩:=Av a
    obtain⟨az,a0,a2⟩:=Ai fV
    obtain⟨e,l,a5,ai,a1,aj⟩:=dT.get (by decide) a2
    obtain⟨_,_,rfl,rfl,rfl⟩:=a1
    have y:=d.addPlc (b:=e) (o:=l+Wv aA*2) (cs:=[Ws cN.stop,Ws cN.tm]) (fun j c hj=>aj j _ (Ak hj)) rfl (by kernel_rfl) (by kernel_rfl)
    refine Bl 3 (aA) rfl rfl (rfl) rfl (by decide) an (by rfl) (by rfl) (by rfl) ai (by rfl) az a0 (by kernel_rfl) fun a4 (ao:Kn 19 [(e,l+Wv aA*2)] ((tP 14 0 0)::(tI 13 aA)::(tS 12 bY s.length cB)::(11,.one (.c (.func bE bF bG)))::(tI 5 aA)::(tI 8 aA)::(KA s bY cB bE bF bG)) a4)=>?_
    refine Rk 4 1 ((tA 15 [Ws cN.stop,Ws cN.tm])::(11,.one (.c (.func bE bF bG)))::(tI 5 aA)::(tI 8 aA)::(KA s bY cB bE bF bG)) ao y fun bd aq=>?_
    obtain⟨cH,eV,a⟩:=Av a
    refine wl fun K hK=>?_
    refine D1 (.func bE bF bG) [.agg [Ws cN.stop,Ws cN.tm]] _ aq y rfl rfl (by decide) (by rfl) (by rfl) rfl (eZ _ _ (Ae.le_refl _) y.has cN _ ((Ab Ac Ac):rep g cN _) _ eV) fun bh a6 bj ah ay k=>?_
    obtain rfl:=ah
    refine⟨.one (.c (.bool cH)),rfl,fun ag (ar:Kn 19 [(e,l+Wv aA*2)] ((tB 16 cH)::(tA 15 [Ws cN.stop,Ws cN.tm])::(11,.one (.c (.func bE bF bG)))::(tI 5 aA)::(tI 8 aA)::(KA s bY cB bE bF bG)) ag)=>hK _ _ ?_⟩
    have x:Kn 19 [(e,l+Wv aA*2)] ((tB 16 cH)::(tI 5 aA)::(tI 8 aA)::(KA s bY cB bE bF bG)) ag:=ar.kp
    refine wf (wC (cH) x (fun q=>?_) (fun q=>?_))
    ·
     rw [q,XW] at a
     refine XT (Aa (Rk 0 2 [tI 4 aA] x k fun be au=>?_))
     refine wf (wp_ret ?_)
     obtain rfl:=XZ a
     obtain rfl:=XZ H
     exact rt (.one (.c (Ws aA))) au k rfl
    ·
     rw [q,XV] at a
     refine wp_skip (Aa (Rk 0 2 ((tI 8 (Wt (aA+1)))::(KA s bY cB bE bF bG)) x k fun bf av=>?_))
     refine wf ?_
     exact XY z ⟨Xc _,XY (Wt (aA+1)) ⟨_,_,rfl,(av.keep [8,7,0,1] (by rfl)).cut 0 (by kernel_rfl),k.cutPl 0 (by kernel_rfl),XU i ay,a⟩⟩
   ·
    rw [p,XV] at a
    refine wp_exit ?_
    obtain rfl:=XZ a
    exact XY () ⟨_,_,rfl,u.kp,d,i,rfl⟩
 ·
  rintro _ bk ⟨af,ab,m,rfl,aw,ad,a7,rfl⟩
  rw [Ex.bind_go] at H
  refine XT (Aa (Rk 0 1 [tI 4 (-1)] aw ad fun bg ax=>?_))
  refine wf (wp_ret ?_)
  obtain rfl:=XZ H
  exact rt (.one (.c (Ws (-1)))) ax ad rfl
theorem Di (n:Nat) {h:Ae} {w:World} (hh:Dk h w) (s:List Rg) {bY:Ww} {cB:Nat} (dT:A4 h bY cB s) (f:Rg→Option Bool) {bE:Fn} {bF bG:Array Value} (eZ:Vf h (.func bE bF bG) f) {r:Bool} (H:AE n s f=some r) :
  Calls Tryz.prog 85 #[.slice bY s.length cB,.func bE bF bG] w (Dq (fun h v=>v=.bool r) h w):=by
 refine enter 9 [.c (Wu bY s.length cB),.c (.func bE bF bG)] Tryz.func85 rfl rfl rfl rfl fun t hk=>?_
 have hm:=Ah.begin h w hh
 unfold AE at H
 refine XT (Aa (Rk 0 1 [tS 0 bY s.length cB,(1,.one (.c (.func bE bF bG)))] hk hm fun m g=>?_))
 refine wf (XT (Aa (Rk 0 2 [(6,.one (.c (.func bE bF bG))),tS 5 bY s.length cB] g hm fun p i=>?_)))
 obtain⟨x7,fL,H⟩:=Av H
 refine wl fun K hK=>?_
 refine wc [.c (Wu bY s.length cB),.c (.func bE bF bG)] i hm (D2 n hm.has s dT f eZ fL) fun q k u b l a=>?_
 obtain rfl:=b
 refine⟨.one (.c (Ws x7)),rfl,fun j (d:Kn 9 [] [tI 7 x7,(6,.one (.c (.func bE bF bG))),tS 5 bY s.length cB] j)=>hK _ _ ?_⟩
 refine Rk 3 2 [tB 4 (decide (x7≥0))] d a fun o e=>?_
 refine wf (wp_ret ?_)
 obtain rfl:=XZ H
 exact rt (.one (.c (.bool (decide (x7≥0))))) e a rfl
theorem D8 (n:Nat) {h:Ae} {w:World} (hh:Dk h w) (s:List CW) {bY:Ww} {cB:Nat} (dT:A4 h bY cB s) (f:CW→Option Bool) {bE:Fn} {bF bG:Array Value} (eZ:Vg h (.func bE bF bG) f) {r:Bool} (H:AQ n s f=some r) :
  Calls Tryz.prog 87 #[.slice bY s.length cB,.func bE bF bG] w (Dq (fun h v=>v=.bool r) h w):=by
 refine enter 9 [.c (Wu bY s.length cB),.c (.func bE bF bG)] Tryz.func87 rfl rfl rfl rfl fun t hk=>?_
 have hm:=Ah.begin h w hh
 unfold AQ at H
 refine XT (Aa (Rk 0 1 [tS 0 bY s.length cB,(1,.one (.c (.func bE bF bG)))] hk hm fun m g=>?_))
 refine wf (XT (Aa (Rk 0 2 [(6,.one (.c (.func bE bF bG))),tS 5 bY s.length cB] g hm fun p i=>?_)))
 obtain⟨x7,fL,H⟩:=Av H
 refine wl fun K hK=>?_
 refine wc [.c (Wu bY s.length cB),.c (.func bE bF bG)] i hm (DP n hm.has s dT f eZ fL) fun q k u b l a=>?_
 obtain rfl:=b
 refine⟨.one (.c (Ws x7)),rfl,fun j (d:Kn 9 [] [tI 7 x7,(6,.one (.c (.func bE bF bG))),tS 5 bY s.length cB] j)=>hK _ _ ?_⟩
 refine Rk 3 2 [tB 4 (decide (x7≥0))] d a fun o e=>?_
 refine wf (wp_ret ?_)
 obtain rfl:=XZ H
 exact rt (.one (.c (.bool (decide (x7≥0))))) e a rfl
theorem Dj (n:Nat) {h:Ae} {w:World} (hh:Dk h w) (s:List AK) {bY:Ww} {cB:Nat} (dT:A4 h bY cB s) (f:AK→Option Bool) {bE:Fn} {bF bG:Array Value} (eZ:Vh h (.func bE bF bG) f) {r:Bool} (H:AF n s f=some r) :
  Calls Tryz.prog 89 #[.slice bY s.length cB,.func bE bF bG] w (Dq (fun h v=>v=.bool r) h w):=by
 refine enter 9 [.c (Wu bY s.length cB),.c (.func bE bF bG)] Tryz.func89 rfl rfl rfl rfl fun t hk=>?_
 have hm:=Ah.begin h w hh
 unfold AF at H
 refine XT (Aa (Rk 0 1 [tS 0 bY s.length cB,(1,.one (.c (.func bE bF bG)))] hk hm fun m g=>?_))
 refine wf (XT (Aa (Rk 0 2 [(6,.one (.c (.func bE bF bG))),tS 5 bY s.length cB] g hm fun p i=>?_)))
 obtain⟨x7,fL,H⟩:=Av H
 refine wl fun K hK=>?_
 refine wc [.c (Wu bY s.length cB),.c (.func bE bF bG)] i hm (D3 n hm.has s dT f eZ fL) fun q k u b l a=>?_
 obtain rfl:=b
 refine⟨.one (.c (Ws x7)),rfl,fun j (d:Kn 9 [] [tI 7 x7,(6,.one (.c (.func bE bF bG))),tS 5 bY s.length cB] j)=>hK _ _ ?_⟩
 refine Rk 3 2 [tB 4 (decide (x7≥0))] d a fun o e=>?_
 refine wf (wp_ret ?_)
 obtain rfl:=XZ H
 exact rt (.one (.c (.bool (decide (x7≥0))))) e a rfl
theorem Gm (n:Nat) {h:Ae} {w:World} (hh:Dk h w) (x:Rg) {gA:Wx} (jH:rep h x gA) (q0:Rg→Option Bool) {bV:Nat} (dB:CY h bV q0) {r:Bool} (H:AU n x q0=some r) :
  Calls Tryz.prog 86 #[.agg gA.toArray,.pointer (some ⟨bV,0,none⟩)] w (Dq (fun h v=>v=.bool r) h w):=by
 obtain⟨_,_,rfl,rfl,rfl⟩:=jH
 obtain⟨_,eX,eY⟩:=id dB
 obtain⟨d,a,b,rfl,l⟩:=eX
 refine HL (e:=[(bV,0)]) 8 [.agg [Ws x.lo,Ws x.hi],.c (.ptr 0 0)] Tryz.func86 rfl rfl rfl rfl fun t hk=>?_
 have hm:=Ah.begin h w hh
 replace hm:=hm.addPlc (o:=0) (cs:=[.func d a b]) (fun j c hj=>by rw [Xa]; exact eY j _ (Ak hj)) rfl (by kernel_rfl) (by kernel_rfl)
 replace hm:Ah ⟨w,h,A6⟩ h [(bV,0)] [⟨[.func d a b],none⟩] [] w:=hm
 unfold AU at H
 refine XT (Aa (wl fun K hK=>?_))
 refine wb (.agg [Ws x.lo,Ws x.hi]) hk hm fun g z ah (u:Kn 8 [(bV,0),(g,0)] [tP 2 1 0,tA 0 [Ws x.lo,Ws x.hi],tP 1 0 0] z) f=>hK _ _ ?_
 refine Rk 1 1 [tP 2 1 0,tP 1 0 0] u f fun ac m=>?_
 refine wf (XT (Aa (Rk 0 2 [tA 5 [Ws x.lo,Ws x.hi],(4,.one (.c (.func d a b)))] m f fun ad p=>?_)))
 obtain⟨x6,kP,H⟩:=Av H
 refine wl fun K hK=>?_
 refine D1 (.func d a b) [.agg [Ws x.lo,Ws x.hi]] _ p f rfl rfl (by decide) (by rfl) (by rfl) rfl (l _ _ (Ae.le_refl _) f.has x _ ((Ab Ac Ac):rep h x _) _ kP) fun af aa ag k ab i=>?_
 obtain rfl:=k
 refine⟨.one (.c (.bool x6)),rfl,fun y (q:Kn 8 [(bV,0),(g,0)] [tB 6 x6,tA 5 [Ws x.lo,Ws x.hi],(4,.one (.c (.func d a b)))] y)=>hK _ _ ?_⟩
 refine Rk 3 2 [tB 3 (!x6)] q i fun ae s=>?_
 refine wf (wp_ret ?_)
 obtain rfl:=XZ H
 exact rt (.one (.c (.bool (!x6)))) s i rfl
theorem GG (n:Nat) {h:Ae} {w:World} (hh:Dk h w) (x:CW) {gA:Wx} (jH:rep h x gA) (q0:CW→Option Bool) {bV:Nat} (dB:CY h bV q0) {r:Bool} (H:Bm n x q0=some r) :
  Calls Tryz.prog 88 #[.agg gA.toArray,.pointer (some ⟨bV,0,none⟩)] w (Dq (fun h v=>v=.bool r) h w):=by
 obtain⟨_,_,rfl,rfl,⟨_,_,rfl,rfl,rfl⟩⟩:=jH
 obtain⟨_,eX,eY⟩:=id dB
 obtain⟨d,a,b,rfl,l⟩:=eX
 refine HL (e:=[(bV,0)]) 8 [.agg (Nz x),.c (.ptr 0 0)] Tryz.func88 rfl rfl rfl rfl fun t hk=>?_
 have hm:=Ah.begin h w hh
 replace hm:=hm.addPlc (o:=0) (cs:=[.func d a b]) (fun j c hj=>by rw [Xa]; exact eY j _ (Ak hj)) rfl (by kernel_rfl) (by kernel_rfl)
 replace hm:Ah ⟨w,h,A6⟩ h [(bV,0)] [⟨[.func d a b],none⟩] [] w:=hm
 unfold Bm at H
 refine XT (Aa (wl fun K hK=>?_))
 refine wb (.agg (Nz x)) hk hm fun g z ah (u:Kn 8 [(bV,0),(g,0)] [tP 2 1 0,tA 0 (Nz x),tP 1 0 0] z) f=>hK _ _ ?_
 refine Rk 1 1 [tP 2 1 0,tP 1 0 0] u f fun ac m=>?_
 refine wf (XT (Aa (Rk 0 2 [tA 5 (Nz x),(4,.one (.c (.func d a b)))] m f fun ad p=>?_)))
 obtain⟨x6,kP,H⟩:=Av H
 refine wl fun K hK=>?_
 refine D1 (.func d a b) [.agg (Nz x)] _ p f rfl rfl (by decide) (by rfl) (by rfl) rfl (l _ _ (Ae.le_refl _) f.has x _ ((Ab Ac (Ab Ac Ac)):rep h x _) _ kP) fun af aa ag k ab i=>?_
 obtain rfl:=k
 refine⟨.one (.c (.bool x6)),rfl,fun y (q:Kn 8 [(bV,0),(g,0)] [tB 6 x6,tA 5 (Nz x),(4,.one (.c (.func d a b)))] y)=>hK _ _ ?_⟩
 refine Rk 3 2 [tB 3 (!x6)] q i fun ae s=>?_
 refine wf (wp_ret ?_)
 obtain rfl:=XZ H
 exact rt (.one (.c (.bool (!x6)))) s i rfl
theorem Gn (n:Nat) {h:Ae} {w:World} (hh:Dk h w) (x:AK) {gA:Wx} (jH:rep h x gA) (q0:AK→Option Bool) {bV:Nat} (dB:CY h bV q0) {r:Bool} (H:AV n x q0=some r) :
  Calls Tryz.prog 90 #[.agg gA.toArray,.pointer (some ⟨bV,0,none⟩)] w (Dq (fun h v=>v=.bool r) h w):=by
 obtain⟨_,_,rfl,rfl,rfl⟩:=jH
 obtain⟨_,eX,eY⟩:=id dB
 obtain⟨d,a,b,rfl,l⟩:=eX
 refine HL (e:=[(bV,0)]) 8 [.agg [Ws x.stop,Ws x.tm],.c (.ptr 0 0)] Tryz.func90 rfl rfl rfl rfl fun t hk=>?_
 have hm:=Ah.begin h w hh
 replace hm:=hm.addPlc (o:=0) (cs:=[.func d a b]) (fun j c hj=>by rw [Xa]; exact eY j _ (Ak hj)) rfl (by kernel_rfl) (by kernel_rfl)
 replace hm:Ah ⟨w,h,A6⟩ h [(bV,0)] [⟨[.func d a b],none⟩] [] w:=hm
 unfold AV at H
 refine XT (Aa (wl fun K hK=>?_))
 refine wb (.agg [Ws x.stop,Ws x.tm]) hk hm fun g z ah (u:Kn 8 [(bV,0),(g,0)] [tP 2 1 0,tA 0 [Ws x.stop,Ws x.tm],tP 1 0 0] z) f=>hK _ _ ?_
 refine Rk 1 1 [tP 2 1 0,tP 1 0 0] u f fun ac m=>?_
 refine wf (XT (Aa (Rk 0 2 [tA 5 [Ws x.stop,Ws x.tm],(4,.one (.c (.func d a b)))] m f fun ad p=>?_)))
 obtain⟨x6,kP,H⟩:=Av H
 refine wl fun K hK=>?_
 refine D1 (.func d a b) [.agg [Ws x.stop,Ws x.tm]] _ p f rfl rfl (by decide) (by rfl) (by rfl) rfl (l _ _ (Ae.le_refl _) f.has x _ ((Ab Ac Ac):rep h x _) _ kP) fun af aa ag k ab i=>?_
 obtain rfl:=k
 refine⟨.one (.c (.bool x6)),rfl,fun y (q:Kn 8 [(bV,0),(g,0)] [tB 6 x6,tA 5 [Ws x.stop,Ws x.tm],(4,.one (.c (.func d a b)))] y)=>hK _ _ ?_⟩
 refine Rk 3 2 [tB 3 (!x6)] q i fun ae s=>?_
 refine wf (wp_ret ?_)
 obtain rfl:=XZ H
 exact rt (.one (.c (.bool (!x6)))) s i rfl
theorem GH (n:Nat) {h:Ae} {w:World} (hh:Dk h w) (l:List Rg) {dK:Ww} {dL:Nat} (eT:A4 h dK dL l) (right:Rg→Option Bool) {bH:Fn} {bI bJ:Array Value} (cY:Vf h (.func bH bI bJ) right) {r:Bool} (H:BW n l right=some r) :
  Calls Tryz.prog 67 #[.slice dK l.length dL,.func bH bI bJ] w (Dq (fun h v=>v=.bool r) h w):=by
 refine enter 9 [.c (Wu dK l.length dL),.c (.func bH bI bJ)] Tryz.func67 rfl rfl rfl rfl fun t hk=>?_
 have hm:=Ah.begin h w hh
 unfold BW at H
 refine XT (Aa (wl fun K hK=>?_))
 refine wb (.c (.func bH bI bJ)) hk hm fun a aa ac (u:Kn 9 [(a,0)] [tP 3 0 0,tS 0 dK l.length dL,(1,.one (.c (.func bH bI bJ)))] aa) f=>hK _ _ ?_
 refine Rk 1 1 [tP 3 0 0,tS 0 dK l.length dL] u f fun ah x=>?_
 refine wf (XT (Aa (Rk 0 1 [tS 5 dK l.length dL,tP 3 0 0] x f fun ai y=>?_)))
 obtain⟨b,j,g,d⟩:=f.settlePlc (i:=0) rfl
 replace eT:=eT.mono j
 replace cY:=cY.mono j
 replace d:Ah ⟨w,h,A6⟩ b [(a,0)] [⟨[.func bH bI bJ],none⟩] [] ac:=d
 have o:CY b a (right:Rg→Option Bool):=CY.of (e:=[(a,0)]) (cs:=[.func bH bI bJ]) (⟨_,_,_,rfl,cY⟩:rep b (right:Rg→Option Bool) _) rfl g
 have ae:AL b a [.func bH bI bJ]:=AL.of (e:=[(a,0)]) (cs:=[.func bH bI bJ]) rfl g
 refine Hn 1 #[] #[.pointer (some ⟨a,0,none⟩)] y rfl rfl (rfl) rfl (by decide) (by rfl) (by rfl) (by rfl) (by rfl) fun z (p:Kn 9 [(a,0)] [(6,.one (.c (.func (.func 86) #[] #[.pointer (some ⟨a,0,none⟩)]))),tS 5 dK l.length dL,tP 3 0 0] z)=>?_
 obtain⟨x7,fL,H⟩:=Av H
 refine wl fun K hK=>?_
 refine wc [.c (Wu dK l.length dL),.c (.func (.func 86) #[] #[.pointer (some ⟨a,0,none⟩)])] p d (Di n d.has l eT (fun(y0:Rg)=>AU n y0 right) (show Vf b (.func (.func 86) #[] #[.pointer (some ⟨a,0,none⟩)]) (fun(y0:Rg)=>AU n y0 right) from fun h2 w2 hle hh y0 cs0 hy0 r H=>⟨86,_,_,rfl,fun _ _=>by kernel_rfl,Gm n hh y0 hy0 right (o.mono hle) H⟩) fL) fun aj ad ak m af k=>?_
 obtain rfl:=m
 refine⟨.one (.c (.bool x7)),rfl,fun ab (q:Kn 9 [(a,0)] [tB 7 x7,(6,.one (.c (.func (.func 86) #[] #[.pointer (some ⟨a,0,none⟩)]))),tS 5 dK l.length dL,tP 3 0 0] ab)=>hK _ _ ?_⟩
 refine Rk 3 2 [tB 4 (!x7)] q k fun ag s=>?_
 refine wf (wp_ret ?_)
 obtain rfl:=XZ H
 exact rt (.one (.c (.bool (!x7)))) s k rfl
theorem Hs (n:Nat) {h:Ae} {w:World} (hh:Dk h w) (l:List CW) {dK:Ww} {dL:Nat} (eT:A4 h dK dL l) (right:CW→Option Bool) {bH:Fn} {bI bJ:Array Value} (cY:Vg h (.func bH bI bJ) right) {r:Bool} (H:Cn n l right=some r) :
  Calls Tryz.prog 69 #[.slice dK l.length dL,.func bH bI bJ] w (Dq (fun h v=>v=.bool r) h w):=by
 refine enter 9 [.c (Wu dK l.length dL),.c (.func bH bI bJ)] Tryz.func69 rfl rfl rfl rfl fun t hk=>?_
 have hm:=Ah.begin h w hh
 unfold Cn at H
 refine XT (Aa (wl fun K hK=>?_))
 refine wb (.c (.func bH bI bJ)) hk hm fun a aa ac (u:Kn 9 [(a,0)] [tP 3 0 0,tS 0 dK l.length dL,(1,.one (.c (.func bH bI bJ)))] aa) f=>hK _ _ ?_
 refine Rk 1 1 [tP 3 0 0,tS 0 dK l.length dL] u f fun ah x=>?_
 refine wf (XT (Aa (Rk 0 1 [tS 5 dK l.length dL,tP 3 0 0] x f fun ai y=>?_)))
 obtain⟨b,j,g,d⟩:=f.settlePlc (i:=0) rfl
 replace eT:=eT.mono j
 replace cY:=cY.mono j
 replace d:Ah ⟨w,h,A6⟩ b [(a,0)] [⟨[.func bH bI bJ],none⟩] [] ac:=d
 have o:CY b a (right:CW→Option Bool):=CY.of (e:=[(a,0)]) (cs:=[.func bH bI bJ]) (⟨_,_,_,rfl,cY⟩:rep b (right:CW→Option Bool) _) rfl g
 have ae:AL b a [.func bH bI bJ]:=AL.of (e:=[(a,0)]) (cs:=[.func bH bI bJ]) rfl g
 refine Hn 1 #[] #[.pointer (some ⟨a,0,none⟩)] y rfl rfl (rfl) rfl (by decide) (by rfl) (by rfl) (by rfl) (by rfl) fun z (p:Kn 9 [(a,0)] [(6,.one (.c (.func (.func 88) #[] #[.pointer (some ⟨a,0,none⟩)]))),tS 5 dK l.length dL,tP 3 0 0] z)=>?_
 obtain⟨x7,fL,H⟩:=Av H
 refine wl fun K hK=>?_
 refine wc [.c (Wu dK l.length dL),.c (.func (.func 88) #[] #[.pointer (some ⟨a,0,none⟩)])] p d (D8 n d.has l eT (fun(y0:CW)=>Bm n y0 right) (show Vg b (.func (.func 88) #[] #[.pointer (some ⟨a,0,none⟩)]) (fun(y0:CW)=>Bm n y0 right) from fun h2 w2 hle hh y0 cs0 hy0 r H=>⟨88,_,_,rfl,fun _ _=>by kernel_rfl,GG n hh y0 hy0 right (o.mono hle) H⟩) fL) fun aj ad ak m af k=>?_
 obtain rfl:=m
 refine⟨.one (.c (.bool x7)),rfl,fun ab (q:Kn 9 [(a,0)] [tB 7 x7,(6,.one (.c (.func (.func 88) #[] #[.pointer (some ⟨a,0,none⟩)]))),tS 5 dK l.length dL,tP 3 0 0] ab)=>hK _ _ ?_⟩
 refine Rk 3 2 [tB 4 (!x7)] q k fun ag s=>?_
 refine wf (wp_ret ?_)
 obtain rfl:=XZ H
 exact rt (.one (.c (.bool (!x7)))) s k rfl
theorem GI (n:Nat) {h:Ae} {w:World} (hh:Dk h w) (l:List AK) {dK:Ww} {dL:Nat} (eT:A4 h dK dL l) (right:AK→Option Bool) {bH:Fn} {bI bJ:Array Value} (cY:Vh h (.func bH bI bJ) right) {r:Bool} (H:BX n l right=some r) :
  Calls Tryz.prog 70 #[.slice dK l.length dL,.func bH bI bJ] w (Dq (fun h v=>v=.bool r) h w):=by
 refine enter 9 [.c (Wu dK l.length dL),.c (.func bH bI bJ)] Tryz.func70 rfl rfl rfl rfl fun t hk=>?_
 have hm:=Ah.begin h w hh
 unfold BX at H
 refine XT (Aa (wl fun K hK=>?_))
 refine wb (.c (.func bH bI bJ)) hk hm fun a aa ac (u:Kn 9 [(a,0)] [tP 3 0 0,tS 0 dK l.length dL,(1,.one (.c (.func bH bI bJ)))] aa) f=>hK _ _ ?_
 refine Rk 1 1 [tP 3 0 0,tS 0 dK l.length dL] u f fun ah x=>?_
 refine wf (XT (Aa (Rk 0 1 [tS 5 dK l.length dL,tP 3 0 0] x f fun ai y=>?_)))
 obtain⟨b,j,g,d⟩:=f.settlePlc (i:=0) rfl
 replace eT:=eT.mono j
 replace cY:=cY.mono j
 replace d:Ah ⟨w,h,A6⟩ b [(a,0)] [⟨[.func bH bI bJ],none⟩] [] ac:=d
 have o:CY b a (right:AK→Option Bool):=CY.of (e:=[(a,0)]) (cs:=[.func bH bI bJ]) (⟨_,_,_,rfl,cY⟩:rep b (right:AK→Option Bool) _) rfl g
 have ae:AL b a [.func bH bI bJ]:=AL.of (e:=[(a,0)]) (cs:=[.func bH bI bJ]) rfl g
 refine Hn 1 #[] #[.pointer (some ⟨a,0,none⟩)] y rfl rfl (rfl) rfl (by decide) (by rfl) (by rfl) (by rfl) (by rfl) fun z (p:Kn 9 [(a,0)] [(6,.one (.c (.func (.func 90) #[] #[.pointer (some ⟨a,0,none⟩)]))),tS 5 dK l.length dL,tP 3 0 0] z)=>?_
 obtain⟨x7,fL,H⟩:=Av H
 refine wl fun K hK=>?_
 refine wc [.c (Wu dK l.length dL),.c (.func (.func 90) #[] #[.pointer (some ⟨a,0,none⟩)])] p d (Dj n d.has l eT (fun(y0:AK)=>AV n y0 right) (show Vh b (.func (.func 90) #[] #[.pointer (some ⟨a,0,none⟩)]) (fun(y0:AK)=>AV n y0 right) from fun h2 w2 hle hh y0 cs0 hy0 r H=>⟨90,_,_,rfl,fun _ _=>by kernel_rfl,Gn n hh y0 hy0 right (o.mono hle) H⟩) fL) fun aj ad ak m af k=>?_
 obtain rfl:=m
 refine⟨.one (.c (.bool x7)),rfl,fun ab (q:Kn 9 [(a,0)] [tB 7 x7,(6,.one (.c (.func (.func 90) #[] #[.pointer (some ⟨a,0,none⟩)]))),tS 5 dK l.length dL,tP 3 0 0] ab)=>hK _ _ ?_⟩
 refine Rk 3 2 [tB 4 (!x7)] q k fun ag s=>?_
 refine wf (wp_ret ?_)
 obtain rfl:=XZ H
 exact rt (.one (.c (.bool (!x7)))) s k rfl
abbrev E7 (a):=([(4,.one (.c (.func (.func 64) #[] #[.pointer (some ⟨a,0,none⟩)]))),(3,.one (.c (.func (.func 62) #[] #[.pointer (some ⟨a,0,none⟩)]))),tP 1 0 0]:TM)
abbrev Sb (a):=([(4,.one (.c (.func (.func 64) #[] #[.pointer (some ⟨a,0,none⟩)]))),tP 1 0 0]:TM)
theorem Eo (n:Nat) {h:Ae} {w:World} (hh:Dk h w) (r_:Af) {aP:Wx} (aW:rep h r_ aP) {r:Int} (H:BY n r_=some r) :
  Calls Tryz.prog 40 #[.agg aP.toArray] w (Dq (fun h v=>v=.int .i64 r) h w):=by
 obtain⟨_,_,rfl,⟨l,p,rfl,d⟩,⟨_,_,rfl,⟨_,_,rfl,rfl,rfl⟩,⟨_,_,rfl,⟨m,q,rfl,f⟩,⟨_,_,rfl,⟨o,s,rfl,g⟩,⟨_,_,rfl,rfl,⟨_,_,rfl,rfl,⟨_,_,rfl,rfl,rfl⟩⟩⟩⟩⟩⟩⟩:=aW
 refine enter 85 [.agg (UB l r_ p m q o s)] Tryz.func40 rfl rfl rfl rfl fun t hk=>?_
 have hm:=Ah.begin h w hh
 unfold BY at H
 refine XT (Aa (wl fun K hK=>?_))
 refine wb (.agg (UB l r_ p m q o s)) hk hm fun a ee ep (c3:Kn 85 [(a,0)] [tP 1 0 0,tA 0 (UB l r_ p m q o s)] ee) b4=>hK _ _ ?_
 refine Rk 1 1 [tP 1 0 0] c3 b4 fun e4 c9=>?_
 refine wf (XT (Aa ?_))
 obtain⟨ak,bc,bf,y⟩:=b4.settlePlc (i:=0) rfl
 replace d:=d.mono bc
 replace f:=f.mono bc
 replace g:=g.mono bc
 replace y:Ah ⟨w,h,A6⟩ ak [(a,0)] [⟨UB l r_ p m q o s,none⟩] [] ep:=y
 have j:CY ak a (r_:Af):=CY.of (e:=[(a,0)]) (cs:=(UB l r_ p m q o s)) ((Ab (Ad d) (Ab (Ab Ac Ac) (Ab (Ad f) (Ab (Ad g) (Ab Ac (Ab Ac (Ab Ac Ac))))))):rep ak (r_:Af) _) rfl bf
 have k:AL ak a [.slice l r_.lA.length p,.int .i64 r_.turn.lo,.int .i64 r_.turn.hi,.slice m r_.lB.length q,.slice o r_.lC.length s,.int .i64 r_.lI,.int .i64 r_.gap,.int .i64 r_.fr,.int .i64 r_.to_]:=AL.of (e:=[(a,0)]) (cs:=[.slice l r_.lA.length p,.int .i64 r_.turn.lo,.int .i64 r_.turn.hi,.slice m r_.lB.length q,.slice o r_.lC.length s,.int .i64 r_.lI,.int .i64 r_.gap,.int .i64 r_.fr,.int .i64 r_.to_]) rfl bf
 refine Hn 0 #[] #[.pointer (some ⟨a,0,none⟩)] c9 rfl rfl (rfl) rfl (by decide) (by rfl) (by rfl) (by rfl) (by rfl) fun el (ds:Kn 85 [(a,0)] [(5,.one (.c (.func (.func 62) #[] #[.pointer (some ⟨a,0,none⟩)]))),tP 1 0 0] el)=>?_
 refine Rk 1 1 [(3,.one (.c (.func (.func 62) #[] #[.pointer (some ⟨a,0,none⟩)]))),tP 1 0 0] ds y fun fj dt=>?_
 refine wf (XT (Aa (Hn 0 #[] #[.pointer (some ⟨a,0,none⟩)] dt rfl rfl (rfl) rfl (by decide) (by rfl) (by rfl) (by rfl) (by rfl) fun em (du:Kn 85 [(a,0)] [(6,.one (.c (.func (.func 64) #[] #[.pointer (some ⟨a,0,none⟩)]))),(3,.one (.c (.func (.func 62) #[] #[.pointer (some ⟨a,0,none⟩)]))),tP 1 0 0] em)=>?_)))
 refine Rk 1 1 (E7 a) du y fun fk dv=>?_
 refine wf (XT (wp_block (XT ?_)))
 obtain⟨b5,a4,H⟩:=Av H
 refine A0 (fun a' w'=>∃ (bd:Array Value)(al:Ae),a' = ⟨bd,[]⟩∧Kn 85 [(a,0)] [(4,.one (.c (.func (.func 64) #[] #[.pointer (some ⟨a,0,none⟩)]))),(3,.one (.c (.func (.func 62) #[] #[.pointer (some ⟨a,0,none⟩)]))),tP 1 0 0,tB 7 b5] bd∧Ah ⟨w,h,A6⟩ al [(a,0)] [⟨UB l r_ p m q o s,none⟩] [] w'∧Ae.le ak al) ?_ ?_
 ·
  refine Aa (Rk 0 5 ((tB 12 (decide (((r_.lB.length:Nat):Int)>4)))::(E7 a)) dv y fun cd bv=>?_)
  rcases Xb (decide (((r_.lB.length:Nat):Int)>4)) with au | au
  ·
   rw [au,XW] at a4
   have dw:Kn 85 [(a,0)] ((tB 12 true)::(E7 a)) cd:=(bv.setB 12 true (by rfl) au).kp
   refine Rk 5 6 ((tB 7 true)::(E7 a)) dw y fun fl dx=>?_
   refine wf ?_
   obtain rfl:=XZ a4
   exact XY _ ⟨_,rfl,dx.kp,y,Ae.le_refl _⟩
  ·
   rw [au,XV] at a4
   have dy:Kn 85 [(a,0)] ((tB 12 false)::(E7 a)) cd:=(bv.setB 12 false (by rfl) au).kp
   refine Rk 5 6 ((tB 7 (decide (((r_.lC.length:Nat):Int)>2)))::(E7 a)) dy y fun fm dz=>?_
   refine wf ?_
   obtain rfl:=XZ a4
   exact XY _ ⟨_,rfl,dz.kp,y,Ae.le_refl _⟩
 ·
  rintro _ gb ⟨bd,al,rfl,bb,ab,a2⟩
  replace d:=d.mono a2
  replace f:=f.mono a2
  replace g:=g.mono a2
  replace j:=j.mono a2
  replace k:=k.mono a2
  refine wC (b5) bb (fun a8=>?_) (fun a8=>?_)
  ·
   rw [a8,XW] at H
   refine XT (Aa (Rk 0 1 [tI 2 3] bb ab fun fn d0=>?_))
   refine wf (wp_ret ?_)
   obtain rfl:=XZ H
   exact rt (.one (.c (Ws 3))) d0 ab rfl
  ·
   rw [a8,XV] at H
   refine XT ?_
   obtain⟨b6,b,H⟩:=Av H
   refine A0 (fun a' w'=>∃ (be:Array Value)(a5:Ae),a' = ⟨be,[]⟩∧Kn 85 [(a,0)] [tP 1 0 0,tB 18 b6] be∧Ah ⟨w,h,A6⟩ a5 [(a,0)] [⟨UB l r_ p m q o s,none⟩] [] w'∧Ae.le al a5) ?_ ?_
   ·
    refine Aa (Rk 0 6 ((tB 24 ((Int.tmod ((r_.lA.length:Nat):Int) 2) == 0))::(E7 a)) bb ab fun ce bw=>?_)
    rcases Xb (((Int.tmod ((r_.lA.length:Nat):Int) 2) == 0)) with av | av
    ·
     rw [av,XW] at b
     have d1:Kn 85 [(a,0)] ((tB 24 true)::(E7 a)) ce:=(bw.setB 24 true (by rfl) av).kp
     refine Rk 6 31 [tB 18 true,tP 1 0 0] d1 ab fun fo d2=>?_
     refine wf ?_
     obtain rfl:=XZ b
     exact XY _ ⟨_,rfl,d2.kp,ab,Ae.le_refl _⟩
    ·
     rw [av,XV] at b
     have d3:Kn 85 [(a,0)] ((tB 24 false)::(E7 a)) ce:=(bw.setB 24 false (by rfl) av).kp
     refine Rk 6 1 ((tA 25 (UB l r_ p m q o s))::(tB 24 false)::(E7 a)) d3 ab fun fp bx=>?_
     obtain⟨dY,jC,b⟩:=Av b
     refine Bi _ rfl (Aj bx (by kernel_rfl)) fun K hK=>?_
     refine wc [.agg (UB l r_ p m q o s)] bx ab (DI n ab.has r_ ((Ab (Ad d) (Ab (Ab Ac Ac) (Ab (Ad f) (Ab (Ad g) (Ab Ac (Ab Ac (Ab Ac Ac))))))):rep al r_ _) jC) fun f1 cr gc cn u ai=>?_
     replace d:=d.mono u
     replace f:=f.mono u
     replace g:=g.mono u
     replace j:=j.mono u
     replace k:=k.mono u
     obtain rfl:=cn
     refine⟨.one (.c (Ws dY)),rfl,fun en (d4:Kn 85 [(a,0)] ((tI 26 dY)::(tA 25 (UB l r_ p m q o s))::(tB 24 false)::(E7 a)) en)=>hK _ _ ?_⟩
     refine Rk 8 3 ((tB 29 (decide (dY>4)))::(E7 a)) d4 ai fun cf bz=>?_
     rcases Xb (decide (dY>4)) with aw | aw
     ·
      rw [aw,XW] at b
      have d5:Kn 85 [(a,0)] ((tB 29 true)::(E7 a)) cf:=(bz.setB 29 true (by rfl) aw).kp
      refine Rk 11 26 [tB 18 true,tP 1 0 0] d5 ai fun fq d6=>?_
      refine wf ?_
      obtain rfl:=XZ b
      exact XY _ ⟨_,rfl,d6.kp,ai,u⟩
     ·
      rw [aw,XV] at b
      have d7:Kn 85 [(a,0)] ((tB 29 false)::(E7 a)) cf:=(bz.setB 29 false (by rfl) aw).kp
      refine Rk 11 2 ((tS 31 l r_.lA.length p)::(tB 29 false)::(E7 a)) d7 ai fun fs b0=>?_
      obtain⟨x32,ex32,b⟩:=Av b
      refine Bi _ rfl (Aj b0 (by kernel_rfl)) fun K hK=>?_
      refine wc [.c (Wu l r_.lA.length p),.c (.func (.func 68) #[] #[])] b0 ai (GH n ai.has r_.lA d (fun(y0:Rg)=>BB n y0) (show Vf cr (.func (.func 68) #[] #[]) (fun(y0:Rg)=>BB n y0) from fun h2 w2 hle hh y0 cs0 hy0 r H=>⟨68,_,_,rfl,fun _ _=>by kernel_rfl,FL n hh y0 hy0 H⟩) ex32) fun f2 ct gd co x aj=>?_
      replace d:=d.mono x
      replace f:=f.mono x
      replace g:=g.mono x
      replace j:=j.mono x
      replace k:=k.mono x
      obtain rfl:=co
      refine⟨.one (.c (.bool x32)),rfl,fun eo (d8:Kn 85 [(a,0)] ((tB 32 x32)::(tS 31 l r_.lA.length p)::(tB 29 false)::(E7 a)) eo)=>hK _ _ ?_⟩
      refine Rk 14 3 ((tB 35 (!x32))::(E7 a)) d8 aj fun cg b1=>?_
      rcases Xb ((!x32)) with ax | ax
      ·
       rw [ax,XW] at b
       have d9:Kn 85 [(a,0)] ((tB 35 true)::(E7 a)) cg:=(b1.setB 35 true (by rfl) ax).kp
       refine Rk 17 20 [tB 18 true,tP 1 0 0] d9 aj fun ft ea=>?_
       refine wf ?_
       obtain rfl:=XZ b
       exact XY _ ⟨_,rfl,ea.kp,aj,XU u x⟩
      ·
       rw [ax,XV] at b
       have eb:Kn 85 [(a,0)] ((tB 35 false)::(E7 a)) cg:=(b1.setB 35 false (by rfl) ax).kp
       refine Rk 17 2 ((tA 37 [Ws r_.turn.lo,Ws r_.turn.hi])::(tB 35 false)::(E7 a)) eb aj fun fu b2=>?_
       obtain⟨cR,iH,b⟩:=Av b
       refine Bi _ rfl (Aj b2 (by kernel_rfl)) fun K hK=>?_
       refine wc [.agg [Ws r_.turn.lo,Ws r_.turn.hi]] b2 aj (FL n aj.has r_.turn ((Ab Ac Ac):rep ct r_.turn _) iH) fun f3 cu gf cp aa ag=>?_
       replace d:=d.mono aa
       replace f:=f.mono aa
       replace g:=g.mono aa
       replace j:=j.mono aa
       replace k:=k.mono aa
       obtain rfl:=cp
       refine⟨.one (.c (.bool cR)),rfl,fun ed (cv:Kn 85 [(a,0)] ((tB 38 cR)::(tA 37 [Ws r_.turn.lo,Ws r_.turn.hi])::(tB 35 false)::(E7 a)) ed)=>hK _ _ ?_⟩
       refine Rk 20 3 ((tB 41 (!cR))::(E7 a)) cv ag fun b7 bg=>?_
       rcases Xb ((!cR)) with am | am
       ·
        rw [am,XW] at b
        have cw:Kn 85 [(a,0)] ((tB 41 true)::(E7 a)) b7:=(bg.setB 41 true (by rfl) am).kp
        refine Rk 23 14 [tB 18 true,tP 1 0 0] cw ag fun ex cx=>?_
        refine wf ?_
        obtain rfl:=XZ b
        exact XY _ ⟨_,rfl,cx.kp,ag,XU u (XU x aa)⟩
       ·
        rw [am,XV] at b
        have cy:Kn 85 [(a,0)] ((tB 41 false)::(E7 a)) b7:=(bg.setB 41 false (by rfl) am).kp
        refine Rk 23 3 ((44,.one (.c (.func (.func 62) #[] #[.pointer (some ⟨a,0,none⟩)])))::(tS 43 m r_.lB.length q)::(tB 41 false)::(Sb a)) cy ag fun ey bh=>?_
        obtain⟨aZ,fW,b⟩:=Av b
        refine Bi _ rfl (Aj bh (by kernel_rfl)) fun K hK=>?_
        refine wc [.c (Wu m r_.lB.length q),.c (.func (.func 62) #[] #[.pointer (some ⟨a,0,none⟩)])] bh ag (Hs n ag.has r_.lB f (fun(y0:CW)=>BD n y0 r_) (show Vg cu (.func (.func 62) #[] #[.pointer (some ⟨a,0,none⟩)]) (fun(y0:CW)=>BD n y0 r_) from fun h2 w2 hle hh y0 cs0 hy0 r H=>⟨62,_,_,rfl,fun _ _=>by kernel_rfl,HM n hh y0 hy0 r_ (j.mono hle) H⟩) fW) fun fv cq f4 ch ac ah=>?_
        replace d:=d.mono ac
        replace f:=f.mono ac
        replace g:=g.mono ac
        replace j:=j.mono ac
        replace k:=k.mono ac
        obtain rfl:=ch
        refine⟨.one (.c (.bool aZ)),rfl,fun ef (cz:Kn 85 [(a,0)] ((tB 45 aZ)::(44,.one (.c (.func (.func 62) #[] #[.pointer (some ⟨a,0,none⟩)])))::(tS 43 m r_.lB.length q)::(tB 41 false)::(Sb a)) ef)=>hK _ _ ?_⟩
        refine Rk 27 3 ((tB 48 (!aZ))::(Sb a)) cz ah fun b8 bi=>?_
        rcases Xb ((!aZ)) with an | an
        ·
         rw [an,XW] at b
         have c0:Kn 85 [(a,0)] ((tB 48 true)::(Sb a)) b8:=(bi.setB 48 true (by rfl) an).kp
         refine Rk 30 7 [tB 18 true,tP 1 0 0] c0 ah fun ez c1=>?_
         refine wf ?_
         obtain rfl:=XZ b
         exact XY _ ⟨_,rfl,c1.kp,ah,XU u (XU x (XU aa ac))⟩
        ·
         rw [an,XV] at b
         have c2:Kn 85 [(a,0)] ((tB 48 false)::(Sb a)) b8:=(bi.setB 48 false (by rfl) an).kp
         refine Rk 30 3 [(51,.one (.c (.func (.func 64) #[] #[.pointer (some ⟨a,0,none⟩)]))),tS 50 o r_.lC.length s,tB 48 false,tP 1 0 0] c2 ah fun e0 bj=>?_
         obtain⟨cT,kR,b⟩:=Av b
         refine Bi _ rfl (Aj bj (by kernel_rfl)) fun K hK=>?_
         refine wc [.c (Wu o r_.lC.length s),.c (.func (.func 64) #[] #[.pointer (some ⟨a,0,none⟩)])] bj ah (GI n ah.has r_.lC g (fun(y0:AK)=>BE n y0 r_) (show Vh cq (.func (.func 64) #[] #[.pointer (some ⟨a,0,none⟩)]) (fun(y0:AK)=>BE n y0 r_) from fun h2 w2 hle hh y0 cs0 hy0 r H=>⟨64,_,_,rfl,fun _ _=>by kernel_rfl,HN n hh y0 hy0 r_ (j.mono hle) H⟩) kR) fun fw er f5 ci ec b3=>?_
         obtain rfl:=ci
         refine⟨.one (.c (.bool cT)),rfl,fun eg (c4:Kn 85 [(a,0)] [tB 52 cT,(51,.one (.c (.func (.func 64) #[] #[.pointer (some ⟨a,0,none⟩)]))),tS 50 o r_.lC.length s,tB 48 false,tP 1 0 0] eg)=>hK _ _ ?_⟩
         refine Rk 34 3 [tB 18 (!cT),tP 1 0 0] c4 b3 fun e1 c5=>?_
         refine wf ?_
         obtain rfl:=XZ b
         exact XY _ ⟨_,rfl,c5.kp,b3,XU u (XU x (XU aa (XU ac ec)))⟩
   ·
    rintro _ f6 ⟨be,a5,rfl,a9,a3,ay⟩
    replace d:=d.mono ay
    replace f:=f.mono ay
    replace g:=g.mono ay
    replace j:=j.mono ay
    replace k:=k.mono ay
    refine wC (b6) a9 (fun a6=>?_) (fun a6=>?_)
    ·
     rw [a6,XW] at H
     refine XT (Aa (Rk 0 1 [tI 2 1] a9 a3 fun e2 c6=>?_))
     refine wf (wp_ret ?_)
     obtain rfl:=XZ H
     exact rt (.one (.c (Ws 1))) c6 a3 rfl
    ·
     rw [a6,XV] at H
     refine XT (Aa (Rk 0 2 [tI 57 r_.lI,tP 1 0 0] a9 a3 fun e3 c7=>?_))
     obtain⟨dM,jB,H⟩:=Av H
     refine wl fun K hK=>?_
     refine wc [.c (Ws r_.lI),.c (Ws 1),.c (Ws 30)] c7 a3 (Cx n a3.has r_.lI 1 30 jB) fun fx es f7 cj az ad=>?_
     replace d:=d.mono az
     replace f:=f.mono az
     replace g:=g.mono az
     replace j:=j.mono az
     replace k:=k.mono az
     obtain rfl:=cj
     refine⟨.one (.c (.bool dM)),rfl,fun eh (c8:Kn 85 [(a,0)] [tB 58 dM,tI 57 r_.lI,tP 1 0 0] eh)=>hK _ _ ?_⟩
     refine Rk 3 2 [tB 60 (!dM),tP 1 0 0] c8 ad fun b9 bk=>?_
     rcases Xb ((!dM)) with ao | ao
     ·
      rw [ao,XW] at H
      have da:Kn 85 [(a,0)] [tB 60 true,tP 1 0 0] b9:=(bk.setB 60 true (by rfl) ao).kp
      refine Rk 5 25 [tB 55 true] da ad fun e5 bl=>?_
      refine wf (wC true bl (fun hb=>?_) (fun hb=>?_))
      rotate_left
      ·
       cases hb
      refine XT (Aa (Rk 0 1 [tI 2 1] bl ad fun e6 db=>?_))
      refine wf (wp_ret ?_)
      obtain rfl:=XZ H
      exact rt (.one (.c (Ws 1))) db ad rfl
     ·
      rw [ao,XV] at H
      have dc:Kn 85 [(a,0)] [tB 60 false,tP 1 0 0] b9:=(bk.setB 60 false (by rfl) ao).kp
      refine Rk 5 2 [tI 62 r_.gap,tB 60 false,tP 1 0 0] dc ad fun e7 bm=>?_
      obtain⟨dC,gW,H⟩:=Av H
      refine Bi _ rfl (Aj bm (by kernel_rfl)) fun K hK=>?_
      refine wc [.c (Ws r_.gap)] bm ad (E6 n ad.has r_.gap gW) fun fy et f8 ck a0 ae=>?_
      replace d:=d.mono a0
      replace f:=f.mono a0
      replace g:=g.mono a0
      replace j:=j.mono a0
      replace k:=k.mono a0
      obtain rfl:=ck
      refine⟨.one (.c (.bool dC)),rfl,fun ei (dd:Kn 85 [(a,0)] [tB 63 dC,tI 62 r_.gap,tB 60 false,tP 1 0 0] ei)=>hK _ _ ?_⟩
      refine Rk 8 3 [tB 66 (!dC),tP 1 0 0] dd ae fun ca bn=>?_
      rcases Xb ((!dC)) with ap | ap
      ·
       rw [ap,XW] at H
       have de:Kn 85 [(a,0)] [tB 66 true,tP 1 0 0] ca:=(bn.setB 66 true (by rfl) ap).kp
       refine Rk 11 19 [tB 55 true] de ae fun e8 bo=>?_
       refine wf (wC true bo (fun hb=>?_) (fun hb=>?_))
       rotate_left
       ·
        cases hb
       refine XT (Aa (Rk 0 1 [tI 2 1] bo ae fun e9 df=>?_))
       refine wf (wp_ret ?_)
       obtain rfl:=XZ H
       exact rt (.one (.c (Ws 1))) df ae rfl
      ·
       rw [ap,XV] at H
       have dg:Kn 85 [(a,0)] [tB 66 false,tP 1 0 0] ca:=(bn.setB 66 false (by rfl) ap).kp
       refine Rk 11 2 [tI 68 r_.fr,tB 66 false,tP 1 0 0] dg ae fun fa bp=>?_
       obtain⟨dQ,kT,H⟩:=Av H
       refine Bi _ rfl (Aj bp (by kernel_rfl)) fun K hK=>?_
       refine wc [.c (Ws r_.fr)] bp ae (E6 n ae.has r_.fr kT) fun fz eu f9 cl a1 af=>?_
       replace d:=d.mono a1
       replace f:=f.mono a1
       replace g:=g.mono a1
       replace j:=j.mono a1
       replace k:=k.mono a1
       obtain rfl:=cl
       refine⟨.one (.c (.bool dQ)),rfl,fun ej (dh:Kn 85 [(a,0)] [tB 69 dQ,tI 68 r_.fr,tB 66 false,tP 1 0 0] ej)=>hK _ _ ?_⟩
       refine Rk 14 3 [tB 72 (!dQ),tP 1 0 0] dh af fun cb bq=>?_
       rcases Xb ((!dQ)) with aq | aq
       ·
        rw [aq,XW] at H
        have di:Kn 85 [(a,0)] [tB 72 true,tP 1 0 0] cb:=(bq.setB 72 true (by rfl) aq).kp
        refine Rk 17 13 [tB 55 true] di af fun fb br=>?_
        refine wf (wC true br (fun hb=>?_) (fun hb=>?_))
        rotate_left
        ·
         cases hb
        refine XT (Aa (Rk 0 1 [tI 2 1] br af fun fc dj=>?_))
        refine wf (wp_ret ?_)
        obtain rfl:=XZ H
        exact rt (.one (.c (Ws 1))) dj af rfl
       ·
        rw [aq,XV] at H
        have dk:Kn 85 [(a,0)] [tB 72 false,tP 1 0 0] cb:=(bq.setB 72 false (by rfl) aq).kp
        refine Rk 17 2 [tI 74 r_.to_,tB 72 false,tP 1 0 0] dk af fun fd bs=>?_
        obtain⟨dH,gV,H⟩:=Av H
        refine Bi _ rfl (Aj bs (by kernel_rfl)) fun K hK=>?_
        refine wc [.c (Ws r_.to_)] bs af (E6 n af.has r_.to_ gV) fun f0 ev ga cm ew z=>?_
        obtain rfl:=cm
        refine⟨.one (.c (.bool dH)),rfl,fun ek (dl:Kn 85 [(a,0)] [tB 75 dH,tI 74 r_.to_,tB 72 false,tP 1 0 0] ek)=>hK _ _ ?_⟩
        refine Rk 20 3 [tB 78 (!dH),tP 1 0 0] dl z fun cc bt=>?_
        rcases Xb ((!dH)) with ar | ar
        ·
         rw [ar,XW] at H
         have dm:Kn 85 [(a,0)] [tB 78 true,tP 1 0 0] cc:=(bt.setB 78 true (by rfl) ar).kp
         refine Rk 23 7 [tB 55 true] dm z fun fe bu=>?_
         refine wf (wC true bu (fun hb=>?_) (fun hb=>?_))
         rotate_left
         ·
          cases hb
         refine XT (Aa (Rk 0 1 [tI 2 1] bu z fun ff dn=>?_))
         refine wf (wp_ret ?_)
         obtain rfl:=XZ H
         exact rt (.one (.c (Ws 1))) dn z rfl
        ·
         rw [ar,XV] at H
         have dp:Kn 85 [(a,0)] [tB 78 false,tP 1 0 0] cc:=(bt.setB 78 false (by rfl) ar).kp
         refine Rk 23 7 [tB 55 (decide (r_.fr>r_.to_))] dp z fun fg ba=>?_
         refine wf (wC (decide (r_.fr>r_.to_)) ba (fun a7=>?_) (fun a7=>?_))
         ·
          rw [a7,XW] at H
          refine XT (Aa (Rk 0 1 [tI 2 1] ba z fun fh dq=>?_))
          refine wf (wp_ret ?_)
          obtain rfl:=XZ H
          exact rt (.one (.c (Ws 1))) dq z rfl
         ·
          rw [a7,XV] at H
          refine wp_skip (XT (Aa (Rk 0 1 [tI 2 0] ba z fun fi dr=>?_)))
          refine wf (wp_ret ?_)
          obtain rfl:=XZ H
          exact rt (.one (.c (Ws 0))) dr z rfl
abbrev Fs (aA)(r_:Af)(d e):=([tI 41 aA,tI 40 ((r_.lB.length:Nat):Int),tS 39 d r_.lB.length e,tP 3 1 0,tP 2 0 0]:TM)
theorem E3 (n:Nat) {h:Ae} {w:World} (hh:Dk h w) (r_:Af) {aP:Wx} (aW:rep h r_ aP) (a:An) {cS:Wx} (dN:rep h a cS) {r:Int} (H:Ck n r_ a=some r) :
  Calls Tryz.prog 38 #[.agg aP.toArray,.agg cS.toArray] w (Dq (fun h v=>v=.int .i64 r) h w):=by
 obtain⟨_,_,rfl,⟨k,m,rfl,ae⟩,⟨_,_,rfl,⟨_,_,rfl,rfl,rfl⟩,⟨_,_,rfl,⟨d,e,rfl,aa⟩,⟨_,_,rfl,⟨l,p,rfl,af⟩,⟨_,_,rfl,rfl,⟨_,_,rfl,rfl,⟨_,_,rfl,rfl,rfl⟩⟩⟩⟩⟩⟩⟩:=aW
 obtain⟨_,_,rfl,⟨q,u,rfl,ah⟩,⟨_,_,rfl,⟨s,x,rfl,ai⟩,⟨ac,ad,rfl,al⟩⟩⟩:=dN
 refine enter 65 [.agg (UB k r_ m d e l p),.agg (OL q a u s x ac ad)] Tryz.func38 rfl rfl rfl rfl fun t hk=>?_
 have hm:=Ah.begin h w hh
 unfold Ck at H
 refine XT (Aa (wl fun K hK=>?_))
 refine wb (.agg (UB k r_ m d e l p)) hk hm fun f d3 e7 (cx:Kn 65 [(f,0)] [tP 2 0 0,tA 0 (UB k r_ m d e l p),tA 1 (OL q a u s x ac ad)] d3) dg=>hK _ _ ?_
 refine wl fun K hK=>?_
 refine wb (.agg (OL q a u s x ac ad)) cx dg fun i d4 e8 (cy:Kn 65 [(f,0),(i,0)] [tP 3 1 0,tP 2 0 0,tA 0 (UB k r_ m d e l p),tA 1 (OL q a u s x ac ad)] d4) a1=>hK _ _ ?_
 refine Rk 2 1 EO cy a1 fun em cz=>?_
 refine wf (XT (XT (Aa (Rk 0 1 ((tA 8 (UB k r_ m d e l p))::EO) cz a1 fun en c0=>?_))))
 obtain⟨x9,iL,H⟩:=Av H
 refine wl fun K hK=>?_
 refine wc [.agg (UB k r_ m d e l p)] c0 a1 (Eo n a1.has r_ ((Ab (Ad ae) (Ab (Ab Ac Ac) (Ab (Ad aa) (Ab (Ad af) (Ab Ac (Ab Ac (Ab Ac Ac))))))):rep h r_ _) iL) fun e1 b6 e9 b5 aq y=>?_
 replace ae:=ae.mono aq
 replace aa:=aa.mono aq
 replace af:=af.mono aq
 replace ah:=ah.mono aq
 replace ai:=ai.mono aq
 replace al:=al.mono aq
 obtain rfl:=b5
 refine⟨.one (.c (Ws x9)),rfl,fun d5 (c1:Kn 65 [(f,0),(i,0)] ((tI 9 x9)::(tA 8 (UB k r_ m d e l p))::EO) d5)=>hK _ _ ?_⟩
 refine Rk 2 1 ((tI 5 x9)::EO) c1 y fun eo c2=>?_
 refine wf (XT (Aa (Rk 0 2 ((tB 11 (x9 != 0))::(tI 5 x9)::EO) c2 y fun ep bc=>?_)))
 refine wf (wC ((x9 != 0)) bc (fun a8=>?_) (fun a8=>?_))
 ·
  rw [a8,XW] at H
  refine XT (Aa (Rk 0 2 [tI 4 x9] bc y fun er c3=>?_))
  refine wf (wp_ret ?_)
  obtain rfl:=XZ H
  exact rt (.one (.c (Ws x9))) c3 y rfl
 ·
  rw [a8,XV] at H
  refine wp_skip (XT (XT ?_))
  obtain⟨bw,an,H⟩:=Av H
  refine A0 (fun a' w'=>∃ (bi:Array Value)(av:Ae),a' = ⟨bi,[]⟩∧Kn 65 [(f,0),(i,0)] [tP 3 1 0,tP 2 0 0,tB 37 bw] bi∧Ah ⟨w,h,A6⟩ av [(f,0),(i,0)] [⟨UB k r_ m d e l p,some 48⟩,⟨OL q a u s x ac ad,some 50⟩] [] w'∧Ae.le b6 av) ?_ ?_
  ·
   refine Aa (Rk 0 8 ((tB 20 (((a.lD.length:Nat):Int) != ((r_.lB.length:Nat):Int)))::EO) bc y fun b1 br=>?_)
   rcases Xb ((((a.lD.length:Nat):Int) != ((r_.lB.length:Nat):Int))) with ax | ax
   ·
    rw [ax,XW] at an
    have c4:Kn 65 [(f,0),(i,0)] ((tB 20 true)::EO) b1:=(br.setB 20 true (by rfl) ax).kp
    refine Rk 8 17 ((tB 37 true)::EO) c4 y fun es c5=>?_
    refine wf ?_
    obtain rfl:=XZ an
    exact XY _ ⟨_,rfl,c5.kp,y,Ae.le_refl _⟩
   ·
    rw [ax,XV] at an
    have c6:Kn 65 [(f,0),(i,0)] ((tB 20 false)::EO) b1:=(br.setB 20 false (by rfl) ax).kp
    refine Rk 8 9 ((tB 29 (((a.lE.length:Nat):Int) != ((r_.lB.length:Nat):Int)))::EO) c6 y fun b2 bs=>?_
    rcases Xb ((((a.lE.length:Nat):Int) != ((r_.lB.length:Nat):Int))) with ay | ay
    ·
     rw [ay,XW] at an
     have c7:Kn 65 [(f,0),(i,0)] ((tB 29 true)::EO) b2:=(bs.setB 29 true (by rfl) ay).kp
     refine Rk 17 8 ((tB 37 true)::EO) c7 y fun et c8=>?_
     refine wf ?_
     obtain rfl:=XZ an
     exact XY _ ⟨_,rfl,c8.kp,y,Ae.le_refl _⟩
    ·
     rw [ay,XV] at an
     have c9:Kn 65 [(f,0),(i,0)] ((tB 29 false)::EO) b2:=(bs.setB 29 false (by rfl) ay).kp
     refine Rk 17 8 ((tB 37 (((a.lC.length:Nat):Int) != ((r_.lC.length:Nat):Int)))::EO) c9 y fun eu da=>?_
     refine wf ?_
     obtain rfl:=XZ an
     exact XY _ ⟨_,rfl,da.kp,y,Ae.le_refl _⟩
  ·
   rintro _ fa ⟨bi,av,rfl,bd,a2,ar⟩
   replace ae:=ae.mono ar
   replace aa:=aa.mono ar
   replace af:=af.mono ar
   replace ah:=ah.mono ar
   replace ai:=ai.mono ar
   replace al:=al.mono ar
   refine wC (bw) bd (fun a9=>?_) (fun a9=>?_)
   ·
    rw [a9,XW] at H
    refine XT (Aa (Rk 0 1 [tI 4 2] bd a2 fun ev db=>?_))
    refine wf (wp_ret ?_)
    obtain rfl:=XZ H
    exact rt (.one (.c (Ws 2))) db a2 rfl
   ·
    rw [a9,XV] at H
    refine wp_skip (XT (XT (Aa (Rk 0 4 ((tI 41 0)::(tI 40 ((r_.lB.length:Nat):Int))::(tS 39 d r_.lB.length e)::EO) bd a2 fun ew dc=>?_))))
    refine wf ?_
    obtain⟨bx,bl,H⟩:=Av H
    refine A0 (fun a' w'=>∃ (bz:Unit)(bj:Array Value)(a5:Ae),a' = ⟨bj,[]⟩∧Kn 65 [(f,0),(i,0)] [] bj∧Ah ⟨w,h,A6⟩ a5 [(f,0),(i,0)] [⟨UB k r_ m d e l p,some 48⟩,⟨OL q a u s x ac ad,some 50⟩] [] w'∧Ae.le av a5∧bx=.go bz) ?_ ?_
    ·
     refine wp_block ?_
     refine Au (fun dv a' w'=>∃ (aA:Int)(bk:Array Value)(a6:Ae),a' = ⟨bk,[]⟩∧Kn 65 [(f,0),(i,0)] (Fs aA r_ d e) bk∧Ah ⟨w,h,A6⟩ a6 [(f,0),(i,0)] [⟨UB k r_ m d e l p,some 48⟩,⟨OL q a u s x ac ad,some 50⟩] [] w'∧Ae.le av a6∧BF dv r_ a aA=some bx) n ?_ ?_
     ·
      exact XY 0 ⟨_,_,rfl,dc.kp,a2,Ae.le_refl _,bl⟩
     ·
      rintro a0 _ fb ⟨aA,bk,a6,rfl,dd,a3,aj,g⟩
      clear bl
      obtain _ | a0:=a0
      ·
       rw [BF] at g; cases g
      rw [BF] at g
      replace ae:=ae.mono aj
      replace aa:=aa.mono aj
      replace af:=af.mono aj
      replace ah:=ah.mono aj
      replace ai:=ai.mono aj
      replace al:=al.mono aj
      refine XT (Aa (Rk 0 1 ((tB 42 (decide (aA<((r_.lB.length:Nat):Int))))::(Fs aA r_ d e)) dd a3 fun ex be=>?_))
      refine wf (XT (wC (decide (aA<((r_.lB.length:Nat):Int))) be (fun ba=>?_) (fun ba=>?_)))
      ·
       rw [ba,XW] at g
       refine wp_skip (XT (wp_block (XT (Aa (Rk 0 1 ((tI 43 aA)::(Fs aA r_ d e)) be a3 fun ey de=>?_)))))
       obtain⟨cU,iZ,g⟩:=Av g
       obtain⟨dh,dk,ds⟩:=Ai iZ
       obtain⟨z,ab,d8,b9,dp,ca⟩:=aa.get (by decide) ds
       obtain⟨_,_,rfl,rfl,⟨_,_,rfl,rfl,rfl⟩⟩:=dp
       have bt:=a3.addPlc (b:=z) (o:=ab+Wv aA*3) (cs:=(Nz cU)) (fun j c hj=>ca j _ (Ak hj)) rfl (by kernel_rfl) (by kernel_rfl)
       refine Bl 1 (aA) rfl rfl (rfl) rfl (by decide) de (by rfl) (by rfl) (by rfl) b9 (by rfl) dh dk (by kernel_rfl) fun dw (cd:Kn 65 [(f,0),(i,0),(z,ab+Wv aA*3)] ((tP 44 2 0)::(tI 43 aA)::(Fs aA r_ d e)) dw)=>?_
       refine Rk 2 1 ((tA 45 (Nz cU))::(tI 43 aA)::(Fs aA r_ d e)) cd bt fun eb ce=>?_
       refine wl fun K hK=>?_
       refine wa [Ws 0,Ws 0,Ws 0] ce bt fun ag dx e2 (cf:Kn 65 [(f,0),(i,0),(z,ab+Wv aA*3),(ag,0)] ((tP 7 3 0)::(tA 45 (Nz cU))::(tI 43 aA)::(Fs aA r_ d e)) dx) bu=>hK _ _ ?_
       refine Rk 4 1 ((tI 6 aA)::(tP 7 3 0)::(tA 45 (Nz cU))::(Fs aA r_ d e)) cf bu fun dy cg=>?_
       refine wl fun K hK=>?_
       refine EZ 3 0 (.agg (Nz cU)) (Nz cU) cg bu fun e3 ch az=>hK _ _ ?_
       have ci:Kn 65 [(f,0),(i,0),(z,ab+Wv aA*3),(ag,0)] ((tI 6 aA)::(tP 7 3 0)::(Fs aA r_ d e)) dy:=ch.kp
       refine wf (XT (Am (by kernel_rfl) ?_))
       replace az:=az.drew
       refine Ao [] [(f,0),(i,0),(z,ab+Wv aA*3),(ag,0)] [⟨UB k r_ m d e l p,some 48⟩,⟨OL q a u s x ac ad,some 50⟩,⟨Nz cU,none⟩,⟨Nz cU,some 87⟩] ?_
       refine Dr [0,1,2] [2,1,0] ((tI 48 aA)::(tS 47 q a.lD.length u)::(tI 6 aA)::(tP 7 3 0)::(Fs aA r_ d e)) ci az fun ec cj=>?_
       obtain⟨cA,gU,g⟩:=Av g
       obtain⟨di,dl,dt⟩:=Ai gU
       obtain⟨am,ap,d6,b7,dq,cb⟩:=ah.get (by decide) dt
       obtain rfl:=dq
       have bf:=az.addPlc (b:=am) (o:=ap+Wv aA*1) (cs:=[Ws cA]) (fun j c hj=>cb j _ (Ak hj)) rfl (by kernel_rfl) (by kernel_rfl)
       refine Az 3 (aA) [Ws cA] (fun _ _ _ _ _ h=>h) rfl rfl (rfl) rfl (by decide) (by kernel_rfl) (by kernel_rfl) cj az.plOk (by rfl) (by rfl) (by rfl) b7 (by rfl) di dl (by kernel_rfl) fun dz (ck:Kn 65 [(f,0),(i,0),(z,ab+Wv aA*3),(ag,0),(am,ap+Wv aA*1)] ((tP 49 4 0)::(tI 48 aA)::(tS 47 q a.lD.length u)::(tI 6 aA)::(tP 7 3 0)::(Fs aA r_ d e)) dz)=>?_
       refine Dr [4] (dn 4) ((tI 50 cA)::(tI 6 aA)::(tP 7 3 0)::(Fs aA r_ d e)) ck bf fun ed cl=>?_
       obtain⟨fK,kW,g⟩:=Av g
       refine Dl 5 fun K hK=>?_
       refine wc [.c (Ws cA),.c (Ws 0),.c (Ws 2)] cl bf (Cx a0 bf.has cA 0 2 kW) fun ez bm e4 b3 ao ak=>?_
       replace ae:=ae.mono ao
       replace aa:=aa.mono ao
       replace af:=af.mono ao
       replace ah:=ah.mono ao
       replace ai:=ai.mono ao
       replace al:=al.mono ao
       obtain rfl:=b3
       refine⟨.one (.c (.bool fK)),rfl,fun d0 (cm:Kn 65 [(f,0),(i,0),(z,ab+Wv aA*3),(ag,0),(am,ap+Wv aA*1)] ((tB 51 fK)::(tI 50 cA)::(tI 6 aA)::(tP 7 3 0)::(Fs aA r_ d e)) d0)=>hK _ _ ak.plOk ?_⟩
       refine Dr [6,7] (dn 7) ((tB 53 (!fK))::(tI 6 aA)::(tP 7 3 0)::(Fs aA r_ d e)) cm ak fun b0 bn=>?_
       rcases Xb ((!fK)) with aw | aw
       ·
        rw [aw,XW] at g
        have cn:Kn 65 [(f,0),(i,0),(z,ab+Wv aA*3),(ag,0),(am,ap+Wv aA*1)] ((tB 53 true)::(tI 6 aA)::(tP 7 3 0)::(Fs aA r_ d e)) b0:=(bn.setB 53 true (by rfl) aw).kp
        refine Dr [8,9,10,11,12,13,14,15,16,17] (dn 17) ((tB 63 true)::(Fs aA r_ d e)) cn ak fun ee bo=>?_
        refine A2 (by kernel_rfl) (wC true bo (fun hb=>?_) (fun hb=>?_))
        rotate_left
        ·
         cases hb
        refine XT (Aa (Rk 0 1 [tI 4 2] bo ak fun ef co=>?_))
        refine wf (wp_ret ?_)
        obtain rfl:=XZ g
        obtain rfl:=XZ H
        exact rt (.one (.c (Ws 2))) co ak rfl
       ·
        rw [aw,XV] at g
        have cp:Kn 65 [(f,0),(i,0),(z,ab+Wv aA*3),(ag,0),(am,ap+Wv aA*1)] ((tB 53 false)::(tI 6 aA)::(tP 7 3 0)::(Fs aA r_ d e)) b0:=(bn.setB 53 false (by rfl) aw).kp
        refine Dr [8,9,10,11,12] (dn 12) ((tI 58 aA)::(tS 57 s a.lE.length x)::(tA 55 (Nz cU))::(tA 54 (UB k r_ m d e l p))::(tB 53 false)::(Fs aA r_ d e)) cp ak fun eg bp=>?_
        obtain⟨bW,kS,g⟩:=Av g
        obtain⟨dj,dm,du⟩:=Ai kS
        obtain⟨a4,bh,d7,b8,dr,cc⟩:=ai.get (by decide) du
        obtain rfl:=dr
        have bg:=ak.addPlc (b:=a4) (o:=bh+Wv aA*1) (cs:=[Ws bW]) (fun j c hj=>cc j _ (Ak hj)) rfl (by kernel_rfl) (by kernel_rfl)
        refine Az 13 (aA) [Ws bW] (fun _ _ _ _ _ h=>h) rfl rfl (Aj bp (by kernel_rfl)) rfl (by decide) (by kernel_rfl) (by kernel_rfl) bp ak.plOk (by rfl) (by rfl) (by rfl) b8 (by rfl) dj dm (by kernel_rfl) fun d1 (cq:Kn 65 [(f,0),(i,0),(z,ab+Wv aA*3),(ag,0),(am,ap+Wv aA*1),(a4,bh+Wv aA*1)] ((tP 59 5 0)::(tI 58 aA)::(tS 57 s a.lE.length x)::(tA 55 (Nz cU))::(tA 54 (UB k r_ m d e l p))::(tB 53 false)::(Fs aA r_ d e)) d1)=>?_
        refine Dr [14] (dn 14) ((tI 60 bW)::(tA 55 (Nz cU))::(tA 54 (UB k r_ m d e l p))::(tB 53 false)::(Fs aA r_ d e)) cq bg fun eh bq=>?_
        obtain⟨cF,ge,g⟩:=Av g
        refine EJ 15 rfl (by kernel_rfl) (by decide) (Aj bq (by kernel_rfl)) fun K hK=>?_
        refine wc [.agg (UB k r_ m d e l p),.agg (Nz cU),.c (Ws bW)] bq bg (FM a0 bg.has r_ ((Ab (Ad ae) (Ab (Ab Ac Ac) (Ab (Ad aa) (Ab (Ad af) (Ab Ac (Ab Ac (Ab Ac Ac))))))):rep bm r_ _) cU ((Ab Ac (Ab Ac Ac)):rep bm cU _) bW ge) fun e0 d9 e5 b4 df au=>?_
        obtain rfl:=b4
        refine⟨.one (.c (.bool cF)),rfl,fun d2 (cr:Kn 65 [(f,0),(i,0),(z,ab+Wv aA*3),(ag,0),(am,ap+Wv aA*1),(a4,bh+Wv aA*1)] ((tB 61 cF)::(tI 60 bW)::(tA 55 (Nz cU))::(tA 54 (UB k r_ m d e l p))::(tB 53 false)::(Fs aA r_ d e)) d2)=>hK _ _ au.plOk ?_⟩
        refine Dr [16,17] (dn 17) ((tB 63 (!cF))::(Fs aA r_ d e)) cr au fun ei bb=>?_
        refine A2 (by kernel_rfl) (wC ((!cF)) bb (fun a7=>?_) (fun a7=>?_))
        ·
         rw [a7,XW] at g
         refine XT (Aa (Rk 0 1 [tI 4 2] bb au fun ej ct=>?_))
         refine wf (wp_ret ?_)
         obtain rfl:=XZ g
         obtain rfl:=XZ H
         exact rt (.one (.c (Ws 2))) ct au rfl
        ·
         rw [a7,XV] at g
         refine wp_skip (Aa (Rk 0 2 ((tI 41 (Wt (aA+1)))::(tI 40 ((r_.lB.length:Nat):Int))::(tS 39 d r_.lB.length e)::EO) bb au fun ek cu=>?_))
         refine wf ?_
         exact XY a0 ⟨Xc _,XY (Wt (aA+1)) ⟨_,_,rfl,(cu.keep [41,40,39,3,2] (by rfl)).cut 2 (by kernel_rfl),au.cutPl 2 (by kernel_rfl),XU aj (XU ao df),g⟩⟩
      ·
       rw [ba,XV] at g
       refine wp_exit ?_
       obtain rfl:=XZ g
       exact XY () ⟨_,_,rfl,be.kp,a3,aj,rfl⟩
    ·
     rintro _ e6 ⟨bz,bj,a5,rfl,cv,bv,ea,rfl⟩
     rw [Ex.bind_go] at H
     refine XT (Aa (Rk 0 1 [tI 4 0] cv bv fun el cw=>?_))
     refine wf (wp_ret ?_)
     obtain rfl:=XZ H
     exact rt (.one (.c (Ws 0))) cw bv rfl
end Go.Proofs.YtokchpjijlebiaaGreat
