/- Each call computes its plain function. -/
import Derived.Test.YtokchpjijlebiaaGreatProg
import Derived.Test.YtokchpjijlebiaaGreatRQP0
set_option linter.all false
namespace Go.Proofs.YtokchpjijlebiaaGreat
open Go Go.RowKit
set_option maxRecDepth 100000
set_option maxHeartbeats 4000000
open Rep (rep)
open KRep (kv)
open VRep (rv)
theorem CK (n:Nat) {h:Ae} {w:World} (hh:Dk h w) (s:List Int) {bY:Ww} {cB:Nat} (dT:A4 h bY cB s) {r:List Int} (H:B1 n s=some r) :
  Calls Tryz.prog 81 #[.slice bY s.length cB] w (Dq (fun h v=>∃ a c,v=.slice a r.length c∧A4 h a c r) h w):=by
 refine enter 8 [.c (Wu bY s.length cB)] Tryz.func81 rfl rfl rfl rfl fun t hk=>?_
 have hm:=Ah.begin h w hh
 unfold B1 at H
 refine XT (Aa (Rk 0 1 [tS 0 bY s.length cB] hk hm fun ao ac=>?_))
 refine wf (XT (XT (Aa (Rk 0 2 [tB 4 bY.isNone,tS 0 bY s.length cB] ac hm fun aq k=>?_))))
 refine wf (wC (bY.isNone) k (fun u=>?_) (fun u=>?_))
 ·
  obtain rfl:=A4.isNil dT (by decide) u
  replace H:some ([]:List Int)=some r:=by simpa [Jj] using H
  refine XT (Aa (Rk 0 1 [tS 2 none 0 0] k hm fun au af=>?_))
  refine wf (wp_ret ?_)
  obtain rfl:=XZ H
  exact rt (.one (.c (Wu none 0 0))) af hm ⟨_,_,rfl,A4.nil⟩
 ·
  refine wp_skip (XT (Aa (wl fun K hK=>?_)))
  refine wS 3 1 [] k hm fun g am av (aa:Kn 8 [] [tS 5 g 0 0,tB 4 bY.isNone,tS 0 bY s.length cB] am) l=>?_
  have y:Ag h ([]:List Int) ([]:Wx):=Ag.nil
  refine hK _ _ ?_
  refine Rk 1 1 [tS 6 bY s.length cB,tS 5 g 0 0] aa l fun ap ab=>?_
  obtain⟨f,e,ak,_⟩:=id dT
  obtain⟨x7,fL,H⟩:=Av H
  obtain⟨p,ag⟩:=Bb fL
  refine wl fun K hK=>?_
  refine AD 0 8 s.length _ (x7.length) _ f ab l rfl rfl (by decide) rfl (by rfl) (by kernel_rfl) (by rfl) (by rfl) (Ag.len e) (ak.cell l.has e.one) e.one (by rw [p]; simp <;> omega) (by rw [p]; exact ag) (by decide) fun b d x al an z (ad:Kn 8 [] [tS 7 b x7.length d,tS 6 bY s.length cB,tS 5 g 0 0] al) m=>?_
  have j:Ag h x7 (([]:Wx)++f):=by rw [p]; exact Ag.append y e
  obtain rfl:x=0:=Nat.le_zero.1 z
  refine hK _ _ ?_
  refine Rk 3 1 [tS 2 b x7.length d] ad m fun ar ae=>?_
  refine wf (wp_ret ?_)
  obtain⟨q,ah,aj,o⟩:=m.settle (i:=0) rfl
  replace j:=j.mono ah
  replace o:Ah ⟨w,h,A6⟩ q [] [] [⟨b,x7.length,d,3,1,([]:Wx)++f,((([]:Wx)++f):Wx).length⟩] an:=o
  have ai:A4 q b d x7:=⟨_,j,aj,m.rowCap (i:=0) rfl⟩
  obtain rfl:=XZ H
  exact rt (.one (.c (Wu b x7.length d))) ae o ⟨_,_,rfl,ai⟩
theorem Hv (n:Nat) {h:Ae} {w:World} (hh:Dk h w) (s:List Bool) {bY:Ww} {cB:Nat} (dT:A4 h bY cB s) {r:List Bool} (H:Cv n s=some r) :
  Calls Tryz.prog 82 #[.slice bY s.length cB] w (Dq (fun h v=>∃ a c,v=.slice a r.length c∧A4 h a c r) h w):=by
 refine enter 8 [.c (Wu bY s.length cB)] Tryz.func82 rfl rfl rfl rfl fun t hk=>?_
 have hm:=Ah.begin h w hh
 unfold Cv at H
 refine XT (Aa (Rk 0 1 [tS 0 bY s.length cB] hk hm fun ao ac=>?_))
 refine wf (XT (XT (Aa (Rk 0 2 [tB 4 bY.isNone,tS 0 bY s.length cB] ac hm fun aq k=>?_))))
 refine wf (wC (bY.isNone) k (fun u=>?_) (fun u=>?_))
 ·
  obtain rfl:=A4.isNil dT (by decide) u
  replace H:some ([]:List Bool)=some r:=by simpa [Jj] using H
  refine XT (Aa (Rk 0 1 [tS 2 none 0 0] k hm fun au af=>?_))
  refine wf (wp_ret ?_)
  obtain rfl:=XZ H
  exact rt (.one (.c (Wu none 0 0))) af hm ⟨_,_,rfl,A4.nil⟩
 ·
  refine wp_skip (XT (Aa (wl fun K hK=>?_)))
  refine wS 4 1 [] k hm fun g am av (aa:Kn 8 [] [tS 5 g 0 0,tB 4 bY.isNone,tS 0 bY s.length cB] am) l=>?_
  have y:Ag h ([]:List Bool) ([]:Wx):=Ag.nil
  refine hK _ _ ?_
  refine Rk 1 1 [tS 6 bY s.length cB,tS 5 g 0 0] aa l fun ap ab=>?_
  obtain⟨f,e,ak,_⟩:=id dT
  obtain⟨x7,fL,H⟩:=Av H
  obtain⟨p,ag⟩:=Bb fL
  refine wl fun K hK=>?_
  refine AD 0 1 s.length _ (x7.length) _ f ab l rfl rfl (by decide) rfl (by rfl) (by kernel_rfl) (by rfl) (by rfl) (Ag.len e) (ak.cell l.has e.one) e.one (by rw [p]; simp <;> omega) (by rw [p]; exact ag) (by decide) fun b d x al an z (ad:Kn 8 [] [tS 7 b x7.length d,tS 6 bY s.length cB,tS 5 g 0 0] al) m=>?_
  have j:Ag h x7 (([]:Wx)++f):=by rw [p]; exact Ag.append y e
  obtain rfl:x=0:=Nat.le_zero.1 z
  refine hK _ _ ?_
  refine Rk 3 1 [tS 2 b x7.length d] ad m fun ar ae=>?_
  refine wf (wp_ret ?_)
  obtain⟨q,ah,aj,o⟩:=m.settle (i:=0) rfl
  replace j:=j.mono ah
  replace o:Ah ⟨w,h,A6⟩ q [] [] [⟨b,x7.length,d,4,1,([]:Wx)++f,((([]:Wx)++f):Wx).length⟩] an:=o
  have ai:A4 q b d x7:=⟨_,j,aj,m.rowCap (i:=0) rfl⟩
  obtain rfl:=XZ H
  exact rt (.one (.c (Wu b x7.length d))) ae o ⟨_,_,rfl,ai⟩
theorem Jl (n:Nat) {h:Ae} {w:World} (hh:Dk h w) (x:List Int) {eG:Ww} {eH:Nat} (gX:A4 h eG eH x) {r:Int} (H:Ei n x=some r) :
  Calls Tryz.prog 83 #[.slice eG x.length eH] w (Dq (fun h v=>v=.int .i64 r) h w):=by
 refine enter 25 [.c (Wu eG x.length eH)] Tryz.func83 rfl rfl rfl rfl fun t hk=>?_
 have hm:=Ah.begin h w hh
 unfold Ei at H
 refine XT (Aa (Rk 0 1 [tS 0 eG x.length eH] hk hm fun bc al=>?_))
 refine wf (XT (XT (Aa (Rk 0 3 [tB 7 (decide (((x.length:Nat):Int)<1)),tS 0 eG x.length eH] al hm fun bf ad=>?_))))
 refine wf (wC (decide (((x.length:Nat):Int)<1)) ad (fun m=>?_) (fun m=>?_))
 ·
  rw [m,XW] at H
  cases H
 ·
  rw [m,XV] at H
  refine wp_skip (XT (Aa (Rk 0 1 [tS 9 eG x.length eH,tS 0 eG x.length eH] ad hm fun bk ax=>?_)))
  obtain⟨bP,dS,H⟩:=Av H
  obtain⟨ay,a0,a4⟩:=Ai dS
  obtain⟨d,e,a9,ag,a2,ai⟩:=gX.get (by decide) a4
  obtain rfl:=a2
  have s:=hm.addPlc (b:=d) (o:=e+Wv 0*1) (cs:=[Ws bP]) (fun j c hj=>ai j _ (Ak hj)) rfl (by kernel_rfl) (by kernel_rfl)
  refine Bl 1 (0) rfl rfl (rfl) rfl (by decide) ax (by rfl) (by rfl) (by rfl) ag (by rfl) ay a0 (by kernel_rfl) fun a7 (ak:Kn 25 [(d,e+Wv 0*1)] [tP 10 0 0,tS 9 eG x.length eH,tS 0 eG x.length eH] a7)=>?_
  refine Rk 2 2 [tI 3 bP,tS 0 eG x.length eH] ak s fun bd am=>?_
  refine wf (XT (XT (Aa (Rk 0 1 [tI 4 1,tI 3 bP,tS 0 eG x.length eH] am s fun be an=>?_))))
  refine wf ?_
  obtain⟨g,ac,H⟩:=Av H
  refine A0 (fun a' w'=>∃ (z:Array Value)(i:Ae),a' = ⟨z,[]⟩∧Kn 25 [(d,e+Wv 0*1)] [tI 3 g] z∧Ah ⟨w,h,A6⟩ i [(d,e+Wv 0*1)] [⟨[Ws bP],none⟩] [] w'∧Ae.le h i) ?_ ?_
  ·
   refine wp_block ?_
   refine Au (fun a6 a' w'=>∃ (aA:Int)(aD:Int)(aa:Array Value)(k:Ae),a' = ⟨aa,[]⟩∧Kn 25 [(d,e+Wv 0*1)] [tI 4 aA,tI 3 aD,tS 0 eG x.length eH] aa∧Ah ⟨w,h,A6⟩ k [(d,e+Wv 0*1)] [⟨[Ws bP],none⟩] [] w'∧Ae.le h k∧BG a6 x aA aD=some g) n ?_ ?_
   ·
    exact XY 1 ⟨bP,_,_,rfl,an.kp,s,Ae.le_refl _,ac⟩
   ·
    rintro y _ bm ⟨aA,aD,aa,k,rfl,ao,f,q,a⟩
    clear ac
    obtain _ | y:=y
    ·
     rw [BG] at a; cases a
    rw [BG] at a
    replace gX:=gX.mono q
    refine XT (XT (Aa (Rk 0 4 [tB 15 (decide (aA<((x.length:Nat):Int))),tI 4 aA,tI 3 aD,tS 0 eG x.length eH] ao f fun bg p=>?_)))
    refine wf (wC (decide (aA<((x.length:Nat):Int))) p (fun l=>?_) (fun l=>?_))
    ·
     rw [l,XW] at a
     refine wp_skip (XT (wp_block (Aa (Rk 0 3 [tI 20 aA,tS 19 eG x.length eH,tI 18 aD,tI 4 aA,tS 0 eG x.length eH] p f fun bh ap=>?_))))
     obtain⟨cV,fQ,a⟩:=Av a
     obtain⟨az,a1,a5⟩:=Ai fQ
     obtain⟨ab,af,ba,ah,a3,aj⟩:=gX.get (by decide) a5
     obtain rfl:=a3
     have u:=f.addPlc (b:=ab) (o:=af+Wv aA*1) (cs:=[Ws cV]) (fun j c hj=>aj j _ (Ak hj)) rfl (by kernel_rfl) (by kernel_rfl)
     refine Bl 3 (aA) rfl rfl (rfl) rfl (by decide) ap (by rfl) (by rfl) (by rfl) ah (by rfl) az a1 (by kernel_rfl) fun a8 (aq:Kn 25 [(d,e+Wv 0*1),(ab,af+Wv aA*1)] [tP 21 1 0,tI 20 aA,tS 19 eG x.length eH,tI 18 aD,tI 4 aA,tS 0 eG x.length eH] a8)=>?_
     refine Rk 4 3 [tI 3 (if cV>aD then cV else aD),tI 4 aA,tS 0 eG x.length eH] aq u fun bi ar=>?_
     refine wf (Aa (Rk 0 3 [tI 4 (Wt (aA+1)),tI 3 (if cV>aD then cV else aD),tS 0 eG x.length eH] ar u fun bj au=>?_))
     refine wf ?_
     exact XY y ⟨Xc _,XY (Wt (aA+1)) ⟨(if cV>aD then cV else aD),_,_,rfl,(au.keep [4,3,0] (by rfl)).cut 1 (by kernel_rfl),u.cutPl 1 (by kernel_rfl),q,a⟩⟩
    ·
     rw [l,XV] at a
     refine wp_exit ?_
     obtain rfl:=XZ a
     exact XY _ ⟨_,rfl,p.kp,f,q⟩
  ·
   rintro _ bn ⟨z,i,rfl,av,ae,bb⟩
   refine XT (Aa (Rk 0 2 [tI 2 g] av ae fun bl aw=>?_))
   refine wf (wp_ret ?_)
   obtain rfl:=XZ H
   exact rt (.one (.c (Ws g))) aw ae rfl
theorem Jm (n:Nat) {h:Ae} {w:World} (hh:Dk h w) (x:List Int) {eG:Ww} {eH:Nat} (gX:A4 h eG eH x) {r:Int} (H:Ej n x=some r) :
  Calls Tryz.prog 84 #[.slice eG x.length eH] w (Dq (fun h v=>v=.int .i64 r) h w):=by
 refine enter 25 [.c (Wu eG x.length eH)] Tryz.func84 rfl rfl rfl rfl fun t hk=>?_
 have hm:=Ah.begin h w hh
 unfold Ej at H
 refine XT (Aa (Rk 0 1 [tS 0 eG x.length eH] hk hm fun bc al=>?_))
 refine wf (XT (XT (Aa (Rk 0 3 [tB 7 (decide (((x.length:Nat):Int)<1)),tS 0 eG x.length eH] al hm fun bf ad=>?_))))
 refine wf (wC (decide (((x.length:Nat):Int)<1)) ad (fun m=>?_) (fun m=>?_))
 ·
  rw [m,XW] at H
  cases H
 ·
  rw [m,XV] at H
  refine wp_skip (XT (Aa (Rk 0 1 [tS 9 eG x.length eH,tS 0 eG x.length eH] ad hm fun bk ax=>?_)))
  obtain⟨bP,dS,H⟩:=Av H
  obtain⟨ay,a0,a4⟩:=Ai dS
  obtain⟨d,e,a9,ag,a2,ai⟩:=gX.get (by decide) a4
  obtain rfl:=a2
  have s:=hm.addPlc (b:=d) (o:=e+Wv 0*1) (cs:=[Ws bP]) (fun j c hj=>ai j _ (Ak hj)) rfl (by kernel_rfl) (by kernel_rfl)
  refine Bl 1 (0) rfl rfl (rfl) rfl (by decide) ax (by rfl) (by rfl) (by rfl) ag (by rfl) ay a0 (by kernel_rfl) fun a7 (ak:Kn 25 [(d,e+Wv 0*1)] [tP 10 0 0,tS 9 eG x.length eH,tS 0 eG x.length eH] a7)=>?_
  refine Rk 2 2 [tI 3 bP,tS 0 eG x.length eH] ak s fun bd am=>?_
  refine wf (XT (XT (Aa (Rk 0 1 [tI 4 1,tI 3 bP,tS 0 eG x.length eH] am s fun be an=>?_))))
  refine wf ?_
  obtain⟨g,ac,H⟩:=Av H
  refine A0 (fun a' w'=>∃ (z:Array Value)(i:Ae),a' = ⟨z,[]⟩∧Kn 25 [(d,e+Wv 0*1)] [tI 3 g] z∧Ah ⟨w,h,A6⟩ i [(d,e+Wv 0*1)] [⟨[Ws bP],none⟩] [] w'∧Ae.le h i) ?_ ?_
  ·
   refine wp_block ?_
   refine Au (fun a6 a' w'=>∃ (aA:Int)(aD:Int)(aa:Array Value)(k:Ae),a' = ⟨aa,[]⟩∧Kn 25 [(d,e+Wv 0*1)] [tI 4 aA,tI 3 aD,tS 0 eG x.length eH] aa∧Ah ⟨w,h,A6⟩ k [(d,e+Wv 0*1)] [⟨[Ws bP],none⟩] [] w'∧Ae.le h k∧Cd a6 x aA aD=some g) n ?_ ?_
   ·
    exact XY 1 ⟨bP,_,_,rfl,an.kp,s,Ae.le_refl _,ac⟩
   ·
    rintro y _ bm ⟨aA,aD,aa,k,rfl,ao,f,q,a⟩
    clear ac
    obtain _ | y:=y
    ·
     rw [Cd] at a; cases a
    rw [Cd] at a
    replace gX:=gX.mono q
    refine XT (XT (Aa (Rk 0 4 [tB 15 (decide (aA<((x.length:Nat):Int))),tI 4 aA,tI 3 aD,tS 0 eG x.length eH] ao f fun bg p=>?_)))
    refine wf (wC (decide (aA<((x.length:Nat):Int))) p (fun l=>?_) (fun l=>?_))
    ·
     rw [l,XW] at a
     refine wp_skip (XT (wp_block (Aa (Rk 0 3 [tI 20 aA,tS 19 eG x.length eH,tI 18 aD,tI 4 aA,tS 0 eG x.length eH] p f fun bh ap=>?_))))
     obtain⟨cV,fQ,a⟩:=Av a
     obtain⟨az,a1,a5⟩:=Ai fQ
     obtain⟨ab,af,ba,ah,a3,aj⟩:=gX.get (by decide) a5
     obtain rfl:=a3
     have u:=f.addPlc (b:=ab) (o:=af+Wv aA*1) (cs:=[Ws cV]) (fun j c hj=>aj j _ (Ak hj)) rfl (by kernel_rfl) (by kernel_rfl)
     refine Bl 3 (aA) rfl rfl (rfl) rfl (by decide) ap (by rfl) (by rfl) (by rfl) ah (by rfl) az a1 (by kernel_rfl) fun a8 (aq:Kn 25 [(d,e+Wv 0*1),(ab,af+Wv aA*1)] [tP 21 1 0,tI 20 aA,tS 19 eG x.length eH,tI 18 aD,tI 4 aA,tS 0 eG x.length eH] a8)=>?_
     refine Rk 4 3 [tI 3 (if cV<aD then cV else aD),tI 4 aA,tS 0 eG x.length eH] aq u fun bi ar=>?_
     refine wf (Aa (Rk 0 3 [tI 4 (Wt (aA+1)),tI 3 (if cV<aD then cV else aD),tS 0 eG x.length eH] ar u fun bj au=>?_))
     refine wf ?_
     exact XY y ⟨Xc _,XY (Wt (aA+1)) ⟨(if cV<aD then cV else aD),_,_,rfl,(au.keep [4,3,0] (by rfl)).cut 1 (by kernel_rfl),u.cutPl 1 (by kernel_rfl),q,a⟩⟩
    ·
     rw [l,XV] at a
     refine wp_exit ?_
     obtain rfl:=XZ a
     exact XY _ ⟨_,rfl,p.kp,f,q⟩
  ·
   rintro _ bn ⟨z,i,rfl,av,ae,bb⟩
   refine XT (Aa (Rk 0 2 [tI 2 g] av ae fun bl aw=>?_))
   refine wf (wp_ret ?_)
   obtain rfl:=XZ H
   exact rt (.one (.c (Ws g))) aw ae rfl
theorem HB (n:Nat) {h:Ae} {w:World} (hh:Dk h w) (l:List Int) {dK:Ww} {dL:Nat} (eT:A4 h dK dL l) {r:Int} (H:DH n l=some r) :
  Calls Tryz.prog 58 #[.slice dK l.length dL] w (Dq (fun h v=>v=.int .i64 r) h w):=by
 refine enter 5 [.c (Wu dK l.length dL)] Tryz.func58 rfl rfl rfl rfl fun t hk=>?_
 have hm:=Ah.begin h w hh
 unfold DH at H
 refine XT (Aa (Rk 0 1 [tS 0 dK l.length dL] hk hm fun m f=>?_))
 refine wf (XT (Aa (Rk 0 1 [tS 3 dK l.length dL] f hm fun p g=>?_)))
 obtain⟨x4,kI,H⟩:=Av H
 refine wl fun K hK=>?_
 refine wc [.c (Wu dK l.length dL)] g hm (Jl n hm.has l eT kI) fun q j s b k a=>?_
 obtain rfl:=b
 refine⟨.one (.c (Ws x4)),rfl,fun i (d:Kn 5 [] [tI 4 x4,tS 3 dK l.length dL] i)=>hK _ _ ?_⟩
 refine Rk 2 1 [tI 2 x4] d a fun o e=>?_
 refine wf (wp_ret ?_)
 obtain rfl:=XZ H
 exact rt (.one (.c (Ws x4))) e a rfl
theorem Fi (n:Nat) {h:Ae} {w:World} (hh:Dk h w) (l:List Int) {dK:Ww} {dL:Nat} (eT:A4 h dK dL l) {r:Int} (H:C9 n l=some r) :
  Calls Tryz.prog 59 #[.slice dK l.length dL] w (Dq (fun h v=>v=.int .i64 r) h w):=by
 refine enter 5 [.c (Wu dK l.length dL)] Tryz.func59 rfl rfl rfl rfl fun t hk=>?_
 have hm:=Ah.begin h w hh
 unfold C9 at H
 refine XT (Aa (Rk 0 1 [tS 0 dK l.length dL] hk hm fun m f=>?_))
 refine wf (XT (Aa (Rk 0 1 [tS 3 dK l.length dL] f hm fun p g=>?_)))
 obtain⟨x4,kI,H⟩:=Av H
 refine wl fun K hK=>?_
 refine wc [.c (Wu dK l.length dL)] g hm (Jm n hm.has l eT kI) fun q j s b k a=>?_
 obtain rfl:=b
 refine⟨.one (.c (Ws x4)),rfl,fun i (d:Kn 5 [] [tI 4 x4,tS 3 dK l.length dL] i)=>hK _ _ ?_⟩
 refine Rk 2 1 [tI 2 x4] d a fun o e=>?_
 refine wf (wp_ret ?_)
 obtain rfl:=XZ H
 exact rt (.one (.c (Ws x4))) e a rfl
abbrev Pd (x6:List Int)(bO)(bD:Nat)(marks:List Int):=([tI 7 ((x6.length:Nat):Int),tS 6 (L9 1 bO bD (Wv 1)) x6.length (bD-(Wv 1)),tS 0 bO marks.length bD]:TM)
abbrev Sc (aA)(x6:List Int)(bO)(bD:Nat)(aD)(marks:List Int):=([tI 8 aA,tI 7 ((x6.length:Nat):Int),tS 6 (L9 1 bO bD (Wv 1)) x6.length (bD-(Wv 1)),tI 2 aD,tS 0 bO marks.length bD]:TM)
theorem Pe (n:Nat) {h:Ae} {w:World} (hh:Dk h w) (marks:List Int) {bO:Ww} {bD:Nat} (fM:A4 h bO bD marks) {r:Int} (H:G0 n marks=some r) :
  Calls Tryz.prog 35 #[.slice bO marks.length bD] w (Dq (fun h v=>v=.int .i64 r) h w):=by
 refine enter 24 [.c (Wu bO marks.length bD)] Tryz.func35 rfl rfl rfl rfl fun t hk=>?_
 have hm:=Ah.begin h w hh
 unfold G0 at H
 refine XT (Aa (Rk 0 1 [tI 2 0,tS 0 bO marks.length bD] hk hm fun b1 aw=>?_))
 refine wf (XT (XT (Aa (Rk 0 1 [tS 5 bO marks.length bD,tI 2 0,tS 0 bO marks.length bD] aw hm fun b4 az=>?_))))
 obtain⟨x6,kP,H⟩:=Av H
 obtain⟨be,bi,am⟩:=U0 kP
 have ad:A4 h (L9 1 bO bD (1:Int).toNat) (bD-(1:Int).toNat) x6:=by rw [am]; exact A4.drop (sz:=1) rfl fM (by omega)
 have bc:marks.length-(Wv 1)=x6.length:=by rw [am,List.length_drop]
 refine Vk (E:=3) 1 1 _ az rfl rfl (rfl) rfl (by decide) (by rfl) (by rfl) (by kernel_rfl) (by kernel_rfl) be bi bc fun bq (au:Kn 24 [] [tS 6 (L9 1 bO bD (Wv 1)) x6.length (bD-(Wv 1)),tS 5 bO marks.length bD,tI 2 0,tS 0 bO marks.length bD] bq)=>?_
 refine Rk 2 2 [tI 8 0,tI 7 ((x6.length:Nat):Int),tS 6 (L9 1 bO bD (Wv 1)) x6.length (bD-(Wv 1)),tI 2 0,tS 0 bO marks.length bD] au hm fun b2 av=>?_
 refine wf ?_
 obtain⟨u,ag,H⟩:=Av H
 refine A0 (fun a' w'=>∃ (ae:Array Value)(x:Ae),a' = ⟨ae,[]⟩∧Kn 24 [] [tI 2 u] ae∧Ah ⟨w,h,A6⟩ x [] [] [] w'∧Ae.le h x) ?_ ?_
 ·
  refine wp_block ?_
  refine Au (fun bp a' w'=>∃ (aA:Int)(aD:Int)(af:Array Value)(e:Ae),a' = ⟨af,[]⟩∧Kn 24 [] (Sc aA x6 bO bD aD marks) af∧Ah ⟨w,h,A6⟩ e [] [] [] w'∧Ae.le h e∧Dd bp marks x6 aA aD=some u) n ?_ ?_
  ·
   exact XY 0 ⟨0,_,_,rfl,av.kp,hm,Ae.le_refl _,ag⟩
  ·
   rintro s _ cd ⟨aA,aD,af,e,rfl,ax,p,m,a⟩
   clear ag
   obtain _ | s:=s
   ·
    rw [Dd] at a; cases a
   rw [Dd] at a
   replace fM:=fM.mono m
   replace ad:=ad.mono m
   refine XT (Aa (Rk 0 1 ((tB 9 (decide (aA<((x6.length:Nat):Int))))::(Sc aA x6 bO bD aD marks)) ax p fun b3 aa=>?_))
   refine wf (XT (wC (decide (aA<((x6.length:Nat):Int))) aa (fun y=>?_) (fun y=>?_)))
   ·
    rw [y,XW] at a
    refine wp_skip (XT (wp_block (XT (Aa (Rk 0 1 ((tI 10 aA)::(Sc aA x6 bO bD aD marks)) aa p fun b5 ay=>?_)))))
    obtain⟨cW,fZ,a⟩:=Av a
    obtain⟨bd,bg,bn⟩:=Ai fZ
    obtain⟨d,f,bw,ao,bl,aq⟩:=ad.get (by decide) bn
    obtain rfl:=bl
    have ab:=p.addPlc (b:=d) (o:=f+Wv aA*1) (cs:=[Ws cW]) (fun j c hj=>aq j _ (Ak hj)) rfl (by kernel_rfl) (by kernel_rfl)
    refine Bl 1 (aA) rfl rfl (rfl) rfl (by decide) ay (by rfl) (by rfl) (by rfl) ao (by rfl) bd bg (by kernel_rfl) fun br (a0:Kn 24 [(d,f+Wv aA*1)] ((tP 11 0 0)::(tI 10 aA)::(Sc aA x6 bO bD aD marks)) br)=>?_
    refine Rk 2 3 ((tI 4 cW)::(tI 3 aA)::(Sc aA x6 bO bD aD marks)) a0 ab fun b6 a1=>?_
    refine wf (Aa (Rk 0 4 ((tI 16 aA)::(tS 15 bO marks.length bD)::(tI 14 cW)::(tI 13 aD)::(tI 8 aA)::(Pd x6 bO bD marks)) a1 ab fun b7 a2=>?_))
    obtain⟨bM,eU,a⟩:=Av a
    obtain⟨bf,bh,bo⟩:=Ai eU
    obtain⟨k,l,bx,ap,bm,ar⟩:=fM.get (by decide) bo
    obtain rfl:=bm
    have aj:=ab.addPlc (b:=k) (o:=l+Wv aA*1) (cs:=[Ws bM]) (fun j c hj=>ar j _ (Ak hj)) rfl (by kernel_rfl) (by kernel_rfl)
    refine Bl 4 (aA) rfl rfl (rfl) rfl (by decide) a2 (by rfl) (by rfl) (by rfl) ap (by rfl) bf bh (by kernel_rfl) fun bs (a3:Kn 24 [(d,f+Wv aA*1),(k,l+Wv aA*1)] ((tP 17 1 0)::(tI 16 aA)::(tS 15 bO marks.length bD)::(tI 14 cW)::(tI 13 aD)::(tI 8 aA)::(Pd x6 bO bD marks)) bs)=>?_
    refine Rk 5 2 ((tI 19 (Wt (cW-bM)))::(tI 13 aD)::(tI 8 aA)::(Pd x6 bO bD marks)) a3 aj fun b8 a4=>?_
    refine wl fun K hK=>?_
    refine wS 3 1 [Ws aD,Ws (Wt (cW-bM))] a4 aj fun g bt bv (a5:Kn 24 [(d,f+Wv aA*1),(k,l+Wv aA*1)] ((tS 20 g 2 2)::(tI 19 (Wt (cW-bM)))::(tI 13 aD)::(tI 8 aA)::(Pd x6 bO bD marks)) bt) ak=>?_
    have z:Ag e ([aD,Wt (cW-bM)]:List Int) ([.int .i64 aD,.int .i64 (Wt (cW-bM))]:Wx):=⟨_,_,rfl,(Ac:rep e (aD:Int) _),⟨_,_,rfl,(Ac:rep e (Wt (cW-bM):Int) _),rfl⟩⟩
    refine hK _ _ ?_
    obtain⟨ah,ai,bk,q⟩:=ak.settle (i:=0) rfl
    replace z:=z.mono ai
    replace q:Ah ⟨w,h,A6⟩ ah [(d,f+Wv aA*1),(k,l+Wv aA*1)] [⟨[Ws cW],none⟩,⟨[Ws bM],none⟩] [⟨g,2,2,3,1,([.int .i64 aD,.int .i64 (Wt (cW-bM))]:Wx),(([.int .i64 aD,.int .i64 (Wt (cW-bM))]:Wx):Wx).length⟩] bv:=q
    have bj:A4 ah g 2 ([aD,Wt (cW-bM)]:List Int):=⟨_,z,bk,ak.rowCap (i:=0) rfl⟩
    obtain⟨cV,fQ,a⟩:=Av a
    refine wl fun K hK=>?_
    refine wc [.c (Wu g 2 2)] a5 q (HB s q.has ([aD,Wt (cW-bM)]:List Int) bj fQ) fun cc bz ce an bb ac=>?_
    obtain rfl:=an
    refine⟨.one (.c (Ws cV)),rfl,fun bu (a6:Kn 24 [(d,f+Wv aA*1),(k,l+Wv aA*1)] ((tI 21 cV)::(tS 20 g 2 2)::(tI 19 (Wt (cW-bM)))::(tI 13 aD)::(tI 8 aA)::(Pd x6 bO bD marks)) bu)=>hK _ _ ?_⟩
    refine Rk 9 1 ((tI 2 cV)::(tI 8 aA)::(Pd x6 bO bD marks)) a6 ac fun b9 a7=>?_
    refine wf (Aa (Rk 0 2 ((tI 8 (Wt (aA+1)))::(tI 2 cV)::(Pd x6 bO bD marks)) a7 ac fun ca a8=>?_))
    refine wf ?_
    exact XY s ⟨Xc _,XY (Wt (aA+1)) ⟨cV,_,_,rfl,(a8.keep [8,7,6,2,0] (by rfl)).cut 0 (by kernel_rfl),(ac.cutRw 0).cutPl 0 (by kernel_rfl),XU m (XU ai bb),a⟩⟩
   ·
    rw [y,XV] at a
    refine wp_exit ?_
    obtain rfl:=XZ a
    exact XY _ ⟨_,rfl,aa.kp,p,m⟩
 ·
  rintro _ cf ⟨ae,x,rfl,a9,al,b0⟩
  refine XT (Aa (Rk 0 2 [tI 2 u] a9 al fun cb ba=>?_))
  refine wf (wp_ret ?_)
  obtain rfl:=XZ H
  exact rt (.one (.c (Ws u))) ba al rfl
abbrev A5 (p q s ac)(ad:Nat)(aN:Int)(ae):=([(p,0),(q,0),(s,0),(ac,ad+Wv aN*3),(ae,0)]:Bh)
abbrev CQ (af)(r_:Af)(ag f g ah ai)(m:Fn)(k:Array Value)(l:Array Value)(aa)(aB:List Int)(ab y)(aJ:List Int)(z u)(aO:List (List Int))(x)(cQ:CW):=([⟨UB af r_ ag f g ah ai,some 48⟩,⟨[.func m k l],some 123⟩,⟨Pz aa aB ab y aJ z u aO x,some 52⟩,⟨Nz cQ,none⟩,⟨Nz cQ,some 87⟩]:List Db)
abbrev LS (a)(aC:List Int)(d)(am:Wx)(ax aa)(aB:List Int)(ab)(al:Wx)(y)(aJ:List Int)(z)(ap:Wx)(u)(aO:List (List Int))(x)(aq:Wx):=([⟨a,aC.length,d,3,1,am,ax⟩,⟨aa,aB.length,ab,3,1,al,0⟩,⟨y,aJ.length,z,3,1,ap,0⟩,⟨u,aO.length,x,29,1,aq,0⟩,⟨none,0,0,3,1,[],0⟩,⟨none,0,0,3,1,[],0⟩,⟨none,0,0,29,1,[],0⟩]:List CO)
abbrev Cp (aN)(r_:Af)(f g a)(aC:List Int)(d):=([tI 28 aN,tI 27 ((r_.lB.length:Nat):Int),tS 26 f r_.lB.length g,tS 5 a aC.length d,tP 4 2 0,tP 3 1 0,tP 2 0 0]:TM)
abbrev E8 (a)(aC:List Int)(d u)(aO:List (List Int))(x y)(aJ:List Int)(z)(cQ:CW)(m:Fn)(k:Array Value)(l:Array Value)(aa)(aB:List Int)(ab aN)(r_:Af)(f g):=((tS 52 a aC.length d)::(tS 51 u aO.length x)::(tP 45 0 1)::(tP 43 1 0)::(tS 42 y aJ.length z)::(tA 37 (VX cQ))::(35,.one (.c (.func m k l)))::(tS 33 aa aB.length ab)::(Cp aN r_ f g a aC d):TM)
abbrev II (r_:Af)(m:Fn)(k:Array Value)(l:Array Value)(au)(cJ:List Int)(av a)(aC:List Int)(d u)(aO:List (List Int))(x y)(aJ:List Int)(z aN f g):=((tA 46 (UJ r_))::(44,.one (.c (.func m k l)))::(tP 56 2 0)::(tS 40 au cJ.length av)::(tS 52 a aC.length d)::(tS 51 u aO.length x)::(tS 42 y aJ.length z)::(Cp aN r_ f g a aC d):TM)
abbrev DD (y)(aJ:List Int)(z aa)(aB:List Int)(ab aN)(r_:Af)(f g a)(aC:List Int)(d):=((tS 42 y aJ.length z)::(tS 33 aa aB.length ab)::(Cp aN r_ f g a aC d):TM)
abbrev Ks (aD)(r_:Af)(af ag ay)(aA:List Int)(az):=([tI 13 aD,tI 12 ((r_.lA.length:Nat):Int),tS 11 af r_.lA.length ag,tS 5 ay aA.length az,tP 4 2 0,tP 3 1 0,tP 2 0 0]:TM)
abbrev ND (cP:Rg)(m:Fn)(k:Array Value)(l:Array Value)(ay)(aA:List Int)(az aD)(r_:Af)(af ag):=([tA 20 (OT cP),(19,.one (.c (.func m k l))),tS 17 ay aA.length az,tI 13 aD,tI 12 ((r_.lA.length:Nat):Int),tS 11 af r_.lA.length ag,tP 4 2 0,tP 3 1 0,tP 2 0 0]:TM)
abbrev HC (cL)(r_:Af)(an)(aH:List Int)(ao):=([tI 63 cL,tI 62 ((r_.lC.length:Nat):Int),tS 5 an aH.length ao,tP 4 2 0]:TM)
theorem A9 (n:Nat) {h:Ae} {w:World} (hh:Dk h w) (r_:Af) {aP:Wx} (aW:rep h r_ aP) (e:HJ) {kX:Wx} (hx_e:rep h e kX) {r:Ap} (H:B7 n r_ e=some r) :
  Calls Tryz.prog 54 #[.agg aP.toArray,.agg kX.toArray] w (VT (fun h v rs=>∃ (gw:Ww)(g5:Nat)(iz:Wx)(af:Ww)(g6:Nat)(i0:Wx)(gx:Ww)(ag:Nat)(i1:Wx),v=.agg #[.slice gw r.tm.length g5,.slice af r.lE.length g6,.slice gx r.lA.length ag]∧rs=[⟨gw,r.tm.length,g5,3,1,iz,0⟩,⟨af,r.lE.length,g6,3,1,i0,0⟩,⟨gx,r.lA.length,ag,29,1,i1,0⟩]∧Ag h r.tm iz∧Ag h r.lE i0∧Ag h r.lA i1) h w):=by
 obtain⟨_,_,rfl,⟨af,ag,rfl,bd⟩,⟨_,_,rfl,⟨_,_,rfl,rfl,rfl⟩,⟨_,_,rfl,⟨f,g,rfl,be⟩,⟨_,_,rfl,⟨ah,ai,rfl,bf⟩,⟨_,_,rfl,rfl,⟨_,_,rfl,rfl,⟨_,_,rfl,rfl,rfl⟩⟩⟩⟩⟩⟩⟩:=aW
 obtain⟨m,k,l,rfl,aw⟩:=hx_e
 refine enter 74 [.agg (UB af r_ ag f g ah ai),.agg [.func m k l]] Tryz.func54 rfl rfl rfl rfl fun t hk=>?_
 have hm:=Ah.begin h w hh
 unfold B7 at H
 refine XT (Aa (wl fun K hK=>?_))
 refine wb (.agg (UB af r_ ag f g ah ai)) hk hm fun p n9 qt (kk:Kn 74 [(p,0)] [tP 2 0 0,tA 0 (UB af r_ ag f g ah ai),tA 1 [.func m k l]] n9) ng=>hK _ _ ?_
 refine wl fun K hK=>?_
 refine wb (.agg [.func m k l]) kk ng fun q ob qw (ks:Kn 74 [(p,0),(q,0)] [tP 3 1 0,tP 2 0 0,tA 0 (UB af r_ ag f g ah ai),tA 1 [.func m k l]] ob) nk=>hK _ _ ?_
 refine wl fun K hK=>?_
 refine wa UE ks nk fun s ix pn (ky:Kn 74 [(p,0),(q,0),(s,0)] [tP 4 2 0,tP 3 1 0,tP 2 0 0,tA 0 (UB af r_ ag f g ah ai),tA 1 [.func m k l]] ix) fn=>hK _ _ ?_
 have k3:Kn 74 [(p,0),(q,0),(s,0)] [tP 4 2 0,tP 3 1 0,tP 2 0 0] ix:=ky.kp
 refine wf (XT (Aa (Rk 0 1 [tS 5 none 0 0,tP 4 2 0,tP 3 1 0,tP 2 0 0] k3 fn fun p7 k9=>?_)))
 refine wf (XT (XT (Aa (Rk 0 4 [tI 13 0,tI 12 ((r_.lA.length:Nat):Int),tS 11 af r_.lA.length ag,tS 5 none 0 0,tP 4 2 0,tP 3 1 0,tP 2 0 0] k9 fn fun p8 lc=>?_))))
 refine wf ?_
 have nl:Ah ⟨w,h,A6⟩ h [(p,0),(q,0),(s,0)] [⟨UB af r_ ag f g ah ai,some 48⟩,⟨[.func m k l],some 123⟩,⟨UE,some 52⟩] [⟨none,0,0,3,1,[],0⟩] pn:=fn.nilRow 3 1
 have jw:Ag h ([]:List Int) []:=Ag.nil
 obtain⟨bn,g9,H⟩:=Av H
 refine A0 (fun a' w'=>∃ (bo:Ww)(bq:Nat)(ce:Wx)(gn:Array Value)(a9:Ae),a' = ⟨gn,[]⟩∧Kn 74 [(p,0),(q,0),(s,0)] [tS 5 bo bn.length bq,tP 4 2 0,tP 3 1 0,tP 2 0 0] gn∧Ah ⟨w,h,A6⟩ a9 [(p,0),(q,0),(s,0)] [⟨UB af r_ ag f g ah ai,some 48⟩,⟨[.func m k l],some 123⟩,⟨UE,some 52⟩] [⟨bo,bn.length,bq,3,1,ce,0⟩] w'∧Ae.le h a9∧Ag a9 bn ce) ?_ ?_
 ·
  refine wp_block ?_
  refine Au (fun n6 a' w'=>∃ (aA:List Int)(aD:Int)(ay:Ww)(az:Nat)(co:Wx)(go:Array Value)(c9:Ae),a' = ⟨go,[]⟩∧Kn 74 [(p,0),(q,0),(s,0)] (Ks aD r_ af ag ay aA az) go∧Ah ⟨w,h,A6⟩ c9 [(p,0),(q,0),(s,0)] [⟨UB af r_ ag f g ah ai,some 48⟩,⟨[.func m k l],some 123⟩,⟨UE,some 52⟩] [⟨ay,aA.length,az,3,1,co,0⟩] w'∧Ae.le h c9∧Ag c9 aA co∧BH n6 r_ e aA aD=some bn) n ?_ ?_
  ·
   exact XY ([]:List Int) ⟨0,none,0,[],_,_,rfl,lc.kp,nl,Ae.le_refl _,jw,g9⟩
  ·
   rintro f9 _ rr ⟨aA,aD,ay,az,co,go,c9,rfl,mb,fu,cl,dx,a6⟩
   clear g9
   obtain _ | f9:=f9
   ·
    rw [BH] at a6; cases a6
   rw [BH] at a6
   replace bd:=bd.mono cl
   replace be:=be.mono cl
   replace bf:=bf.mono cl
   replace aw:=aw.mono cl
   refine XT (Aa (Rk 0 1 ((tB 14 (decide (aD<((r_.lA.length:Nat):Int))))::(Ks aD r_ af ag ay aA az)) mb fu fun qg fd=>?_))
   refine wf (XT (wC (decide (aD<((r_.lA.length:Nat):Int))) fd (fun e1=>?_) (fun e1=>?_)))
   ·
    rw [e1,XW] at a6
    refine wp_skip (XT (wp_block (XT (Aa ?_))))
    obtain⟨cP,jE,a6⟩:=Av a6
    obtain⟨ns,nu,n4⟩:=Ai jE
    obtain⟨b2,cc,pq,jj,n2,j6⟩:=bd.get (by decide) n4
    obtain⟨_,_,rfl,rfl,rfl⟩:=n2
    have ik:=fu.addPlc (b:=b2) (o:=cc+Wv aD*2) (cs:=(OT cP)) (fun j c hj=>j6 j _ (Ak hj)) rfl (by kernel_rfl) (by kernel_rfl)
    refine Bl 0 (aD) rfl rfl (rfl) rfl (by decide) fd (by rfl) (by rfl) (by rfl) jj (by rfl) ns nu (by kernel_rfl) fun pj (mq:Kn 74 [(p,0),(q,0),(s,0),(b2,cc+Wv aD*2)] ((tP 15 3 0)::(tB 14 (decide (aD<((r_.lA.length:Nat):Int))))::(Ks aD r_ af ag ay aA az)) pj)=>?_
    refine Rk 1 1 ((tA 16 (OT cP))::(Ks aD r_ af ag ay aA az)) mq ik fun qi mr=>?_
    refine wl fun K hK=>?_
    refine wa [Ws 0,Ws 0] mr ik fun cv iy r1 (ms:Kn 74 [(p,0),(q,0),(s,0),(b2,cc+Wv aD*2),(cv,0)] ((tP 7 4 0)::(tA 16 (OT cP))::(Ks aD r_ af ag ay aA az)) iy) np=>hK _ _ ?_
    refine wl fun K hK=>?_
    refine EZ 4 0 (.agg (OT cP)) (OT cP) ms np fun r2 mt fx=>hK _ _ ?_
    have mu:Kn 74 [(p,0),(q,0),(s,0),(b2,cc+Wv aD*2),(cv,0)] ((tP 7 4 0)::(Ks aD r_ af ag ay aA az)) iy:=mt.kp
    refine wf (Aa (Rk 0 4 (ND cP m k l ay aA az aD r_ af ag) mu fx fun qj mv=>?_))
    obtain⟨cV,fQ,a6⟩:=Av a6
    refine wl fun K hK=>?_
    refine D1 (.func m k l) [.agg (OT cP)] _ mv fx rfl rfl (by decide) (by rfl) (by rfl) rfl (aw _ _ (Ae.le_refl _) fx.has cP _ ((Ab Ac Ac):rep c9 cP _) _ fQ) fun qr ey r3 jh hw nq=>?_
    replace dx:=dx.mono hw
    obtain rfl:=jh
    refine⟨.one (.c (Ws cV)),rfl,fun pk (mw:Kn 74 [(p,0),(q,0),(s,0),(b2,cc+Wv aD*2),(cv,0)] ((tI 21 cV)::(ND cP m k l ay aA az aD r_ af ag)) pk)=>hK _ _ ?_⟩
    refine wl fun K hK=>?_
    refine wS 3 1 [Ws cV] mw nq fun g4 pl r4 (mx:Kn 74 [(p,0),(q,0),(s,0),(b2,cc+Wv aD*2),(cv,0)] ((tS 22 g4 1 1)::(tI 21 cV)::(ND cP m k l ay aA az aD r_ af ag)) pl) il=>?_
    have e7:Ag ey ([cV]:List Int) ([.int .i64 cV]:Wx):=⟨_,_,rfl,(Ac:rep ey (cV:Int) _),rfl⟩
    refine hK _ _ ?_
    obtain⟨gD,kD,a6⟩:=Av a6
    obtain⟨fy,my⟩:=Bb kD
    refine wl fun K hK=>?_
    refine AD 0 8 1 _ (gD.length) _ ([.int .i64 cV]:Wx) mx il rfl rfl (by decide) rfl (by rfl) (by kernel_rfl) (by rfl) (by rfl) (Ag.len e7) (il.rowCell (i:=1) rfl) e7.one (by rw [fy]; simp <;> omega) (by rw [fy]; exact my) (by decide) fun dp dr i2 n8 qs j7 (kf:Kn 74 [(p,0),(q,0),(s,0),(b2,cc+(aD:Int).toNat*2),(cv,0)] ((tS 23 dp gD.length dr)::(tS 22 g4 1 1)::(tI 21 cV)::(ND cP m k l ay aA az aD r_ af ag)) n8) fi=>?_
    have jk:Ag ey gD (co++([.int .i64 cV]:Wx)):=by rw [fy]; exact Ag.append dx e7
    obtain rfl:i2=0:=Nat.le_zero.1 j7
    refine hK _ _ ?_
    refine Rk 7 1 [tS 5 dp gD.length dr,tI 13 aD,tI 12 ((r_.lA.length:Nat):Int),tS 11 af r_.lA.length ag,tP 4 2 0,tP 3 1 0,tP 2 0 0] kf fi fun pz kg=>?_
    refine wf (Aa (Rk 0 2 [tI 13 (Wt (aD+1)),tS 5 dp gD.length dr,tI 12 ((r_.lA.length:Nat):Int),tS 11 af r_.lA.length ag,tP 4 2 0,tP 3 1 0,tP 2 0 0] kg fi fun p0 kh=>?_))
    refine wf ?_
    exact XY f9 ⟨Xc _,XY gD ⟨Wt (aD+1),dp,dr,co++([.int .i64 cV]:Wx),_,_,rfl,(kh.keep [13,12,11,5,4,3,2] (by rfl)).cut 3 (by kernel_rfl),(fi.cutRw 1).cutPl 3 (by kernel_rfl),XU cl hw,jk,a6⟩⟩
   ·
    rw [e1,XV] at a6
    refine wp_exit ?_
    obtain rfl:=XZ a6
    exact XY ay ⟨az,co,_,_,rfl,fd.kp,fu,cl,dx⟩
 ·
  rintro _ gu ⟨bo,bq,ce,gn,a9,rfl,ki,hx,dz,j2⟩
  replace bd:=bd.mono dz
  replace be:=be.mono dz
  replace bf:=bf.mono dz
  replace aw:=aw.mono dz
  refine XT (XT (Aa (Rk 0 4 [tI 28 0,tI 27 ((r_.lB.length:Nat):Int),tS 26 f r_.lB.length g,tS 5 bo bn.length bq,tP 4 2 0,tP 3 1 0,tP 2 0 0] ki hx fun p1 kj=>?_)))
  refine wf ?_
  have nc:Ah ⟨w,h,A6⟩ a9 [(p,0),(q,0),(s,0)] [⟨UB af r_ ag f g ah ai,some 48⟩,⟨[.func m k l],some 123⟩,⟨UE,some 52⟩] [⟨bo,bn.length,bq,3,1,ce,0⟩,⟨none,0,0,3,1,[],0⟩] gu:=hx.nilRow 3 1
  have jl:Ag a9 ([]:List Int) []:=Ag.nil
  have nd:Ah ⟨w,h,A6⟩ a9 [(p,0),(q,0),(s,0)] [⟨UB af r_ ag f g ah ai,some 48⟩,⟨[.func m k l],some 123⟩,⟨UE,some 52⟩] [⟨bo,bn.length,bq,3,1,ce,0⟩,⟨none,0,0,3,1,[],0⟩,⟨none,0,0,3,1,[],0⟩] gu:=nc.nilRow 3 1
  have jm:Ag a9 ([]:List Int) []:=Ag.nil
  have nf:Ah ⟨w,h,A6⟩ a9 [(p,0),(q,0),(s,0)] [⟨UB af r_ ag f g ah ai,some 48⟩,⟨[.func m k l],some 123⟩,⟨UE,some 52⟩] [⟨bo,bn.length,bq,3,1,ce,0⟩,⟨none,0,0,3,1,[],0⟩,⟨none,0,0,3,1,[],0⟩,⟨none,0,0,29,1,[],0⟩] gu:=nd.nilRow 29 1
  have jn:Ag a9 ([]:List (List Int)) []:=Ag.nil
  obtain⟨aj,g8,H⟩:=Av H
  refine A0 (fun a' w'=>∃ (cp:Ww)(cw:Nat)(d8:Wx)(es:Nat)(a1:Ww)(a3:Nat)(cm:Wx)(a2:Ww)(a4:Nat)(cn:Wx)(dq:Ww)(ds:Nat)(d9:Wx)(ga:Array Value)(bl:Ae),a' = ⟨ga,[]⟩∧Kn 74 [(p,0),(q,0),(s,0)] [tS 5 cp aj.1.length cw,tP 4 2 0,tP 2 0 0] ga∧Ah ⟨w,h,A6⟩ bl [(p,0),(q,0),(s,0)] [⟨UB af r_ ag f g ah ai,some 48⟩,⟨[.func m k l],some 123⟩,⟨[Wu a1 aj.2.1.length a3,Wu a2 aj.2.2.1.length a4,Wu dq aj.2.2.2.length ds],some 52⟩] [⟨cp,aj.1.length,cw,3,1,d8,es⟩,⟨a1,aj.2.1.length,a3,3,1,cm,0⟩,⟨a2,aj.2.2.1.length,a4,3,1,cn,0⟩,⟨dq,aj.2.2.2.length,ds,29,1,d9,0⟩] w'∧Ae.le a9 bl∧Ag bl aj.1 d8∧Ag bl aj.2.1 cm∧Ag bl aj.2.2.1 cn∧Ag bl aj.2.2.2 d9) ?_ ?_
  ·
   refine wp_block ?_
   refine Au (fun n5 a' w'=>∃ (aC:List Int)(aB:List Int)(aJ:List Int)(aO:List (List Int))(aN:Int)(a:Ww)(d:Nat)(am:Wx)(ax:Nat)(aa:Ww)(ab:Nat)(al:Wx)(y:Ww)(z:Nat)(ap:Wx)(u:Ww)(x:Nat)(aq:Wx)(gb:Array Value)(ak:Ae),a' = ⟨gb,[]⟩∧Kn 74 [(p,0),(q,0),(s,0)] (Cp aN r_ f g a aC d) gb∧Ah ⟨w,h,A6⟩ ak [(p,0),(q,0),(s,0)] [⟨UB af r_ ag f g ah ai,some 48⟩,⟨[.func m k l],some 123⟩,⟨Pz aa aB ab y aJ z u aO x,some 52⟩] [⟨a,aC.length,d,3,1,am,ax⟩,⟨aa,aB.length,ab,3,1,al,0⟩,⟨y,aJ.length,z,3,1,ap,0⟩,⟨u,aO.length,x,29,1,aq,0⟩] w'∧Ae.le a9 ak∧Ag ak aC am∧Ag ak aB al∧Ag ak aJ ap∧Ag ak aO aq∧BI n5 r_ e aC aB aJ aO aN=some aj) n ?_ ?_
   ·
    exact XY bn ⟨([]:List Int),([]:List Int),([]:List (List Int)),0,bo,bq,ce,0,none,0,[],none,0,[],none,0,[],_,_,rfl,kj.kp,nf,Ae.le_refl _,j2,jl,jm,jn,g8⟩
   ·
    rintro d6 _ qu ⟨aC,aB,aJ,aO,aN,a,d,am,ax,aa,ab,al,y,z,ap,u,x,aq,gb,ak,rfl,kl,fj,ck,b7,a5,du,dv,ar⟩
    clear g8
    obtain _ | d6:=d6
    ·
     rw [BI] at ar; cases ar
    rw [BI] at ar
    replace bd:=bd.mono ck
    replace be:=be.mono ck
    replace bf:=bf.mono ck
    replace aw:=aw.mono ck
    refine XT (Aa (Rk 0 1 ((tB 29 (decide (aN<((r_.lB.length:Nat):Int))))::(Cp aN r_ f g a aC d)) kl fj fun p2 e8=>?_))
    refine wf (XT (wC (decide (aN<((r_.lB.length:Nat):Int))) e8 (fun ez=>?_) (fun ez=>?_)))
    ·
     rw [ez,XW] at ar
     refine wp_skip (XT (wp_block (XT (Aa ?_))))
     obtain⟨cQ,ex30,ar⟩:=Av ar
     obtain⟨nr,nt,n3⟩:=Ai ex30
     obtain⟨ac,ad,pp,ji,n1,jq⟩:=be.get (by decide) n3
     obtain⟨_,_,rfl,rfl,⟨_,_,rfl,rfl,rfl⟩⟩:=n1
     have hy:=fj.addPlc (b:=ac) (o:=ad+Wv aN*3) (cs:=(Nz cQ)) (fun j c hj=>jq j _ (Ak hj)) rfl (by kernel_rfl) (by kernel_rfl)
     refine Bl 0 (aN) rfl rfl (rfl) rfl (by decide) e8 (by rfl) (by rfl) (by rfl) ji (by rfl) nr nt (by kernel_rfl) fun oa (km:Kn 74 [(p,0),(q,0),(s,0),(ac,ad+Wv aN*3)] ((tP 30 3 0)::(tB 29 (decide (aN<((r_.lB.length:Nat):Int))))::(Cp aN r_ f g a aC d)) oa)=>?_
     refine Rk 1 1 ((tA 31 (Nz cQ))::(Cp aN r_ f g a aC d)) km hy fun p3 kn=>?_
     refine wl fun K hK=>?_
     refine wa [Ws 0,Ws 0,Ws 0] kn hy fun ae iw qv (ko:Kn 74 (A5 p q s ac ad aN ae) ((tP 9 4 0)::(tA 31 (Nz cQ))::(Cp aN r_ f g a aC d)) iw) nh=>hK _ _ ?_
     refine wl fun K hK=>?_
     refine EZ 4 0 (.agg (Nz cQ)) (Nz cQ) ko nh fun gv kq d1=>hK _ _ ?_
     have kr:Kn 74 (A5 p q s ac ad aN ae) ((tP 9 4 0)::(Cp aN r_ f g a aC d)) iw:=kq.kp
     refine wf (Am (by kernel_rfl) ?_)
     replace d1:=d1.drew
     refine Ao [12,14] (A5 p q s ac ad aN ae) (CQ af r_ ag f g ah ai m k l aa aB ab y aJ z u aO x cQ) ?_
     refine Dr [0,1,2,3,4,5,9,10,11,13,18,19,20] [20,19,18,13,11,10,9,5,4,3,2,1,0] (E8 a aC d u aO x y aJ z cQ m k l aa aB ab aN r_ f g) kr d1 fun p4 e9=>?_
     obtain⟨cR,iH,ar⟩:=Av ar
     obtain⟨cJ,gL,ar⟩:=Av ar
     obtain⟨dZ,kQ,ar⟩:=Av ar
     obtain⟨cA,gU,ar⟩:=Av ar
     obtain⟨gE,ex53,ar⟩:=Av ar
     obtain⟨eQ,kM,ar⟩:=Av ar
     have ni:Ah ⟨w,h,A6⟩ ak (A5 p q s ac ad aN ae) (CQ af r_ ag f g ah ai m k l aa aB ab y aJ z u aO x cQ) [⟨a,aC.length,d,3,1,am,ax⟩,⟨aa,aB.length,ab,3,1,al,0⟩,⟨y,aJ.length,z,3,1,ap,0⟩,⟨u,aO.length,x,29,1,aq,0⟩,⟨none,0,0,3,1,[],0⟩] (World.drew gv):=d1.nilRow 3 1
     have pu:Ag ak ([]:List Int) []:=Ag.nil
     have nj:Ah ⟨w,h,A6⟩ ak (A5 p q s ac ad aN ae) (CQ af r_ ag f g ah ai m k l aa aB ab y aJ z u aO x cQ) [⟨a,aC.length,d,3,1,am,ax⟩,⟨aa,aB.length,ab,3,1,al,0⟩,⟨y,aJ.length,z,3,1,ap,0⟩,⟨u,aO.length,x,29,1,aq,0⟩,⟨none,0,0,3,1,[],0⟩,⟨none,0,0,3,1,[],0⟩] (World.drew gv):=ni.nilRow 3 1
     have pv:Ag ak ([]:List Int) []:=Ag.nil
     have a0:Ah ⟨w,h,A6⟩ ak (A5 p q s ac ad aN ae) (CQ af r_ ag f g ah ai m k l aa aB ab y aJ z u aO x cQ) (LS a aC d am ax aa aB ab al y aJ z ap u aO x aq) (World.drew gv):=nj.nilRow 29 1
     have pw:Ag ak ([]:List (List Int)) []:=Ag.nil
     refine Bc (fun W=>∀ (au:Ww),∀ (av:Nat),∀ (dm:Wx),∀ (ef:Ww),∀ (el:Nat),∀ (ea:Wx),∀ a' w',(∃ (gc:Array Value)(cj:Ae),a' = ⟨gc,[]⟩∧Kn 74 (A5 p q s ac ad aN ae) (II r_ m k l au cJ av a aC d u aO x y aJ z aN f g) gc∧Ah ⟨w,h,A6⟩ cj (A5 p q s ac ad aN ae) (CQ af r_ ag f g ah ai m k l aa aB ab y aJ z u aO x cQ) [⟨a,aC.length,d,3,1,am,ax⟩,⟨au,cJ.length,av,3,1,dm,0⟩,⟨y,aJ.length,z,3,1,ap,0⟩,⟨u,aO.length,x,29,1,aq,0⟩,⟨ef,1,el,3,1,ea,0⟩,⟨none,0,0,3,1,[],0⟩,⟨none,0,0,29,1,[],0⟩] w'∧Ae.le ak cj∧Ag cj cJ dm∧Ag cj ([cR]:List Int) ea)→W (A5 p q s ac ad aN ae) (CQ af r_ ag f g ah ai m k l aa aB ab y aJ z u aO x cQ) [24,8,7,6,12,14,20,19,18,13,11,10,9,5,4,3,2,1,0] a' w') ?_ (fun f6=>?_)
     ·
      intro au av dm ef el ea
      rintro _ qx ⟨gc,cj,rfl,kt,hz,dg,e2,px⟩
      replace aw:=aw.mono dg
      refine Dl 15 fun K hK=>?_
      refine D1 (.func m k l) [.agg (UJ r_)] _ kt hz rfl rfl (by decide) (by rfl) (by rfl) rfl (aw _ _ (Ae.le_refl _) hz.has r_.turn _ ((Ab Ac Ac):rep cj r_.turn _) _ kQ) fun qk eu qy ja dh h0=>?_
      replace du:=du.mono (XU dg dh)
      obtain rfl:=ja
      refine⟨.one (.c (Ws dZ)),rfl,fun oc (ku:Kn 74 (A5 p q s ac ad aN ae) ((tI 47 dZ)::(II r_ m k l au cJ av a aC d u aO x y aJ z aN f g)) oc)=>hK _ _ h0.plOk ?_⟩
      refine Dl 16 fun K hK=>?_
      refine BV 5 rfl rfl 3 1 [Ws dZ] ku h0 rfl rfl (by decide) (by kernel_rfl) (by rfl) (by rfl) rfl (by decide) fun cg od qz (kv:Kn 74 (A5 p q s ac ad aN ae) ((tS 48 cg 1 1)::(tI 47 dZ)::(II r_ m k l au cJ av a aC d u aO x y aJ z aN f g)) od) fk=>?_
      have e3:Ag eu ([dZ]:List Int) ([.int .i64 dZ]:Wx):=⟨_,_,rfl,(Ac:rep eu (dZ:Int) _),rfl⟩
      refine hK _ _ fk.plOk ?_
      refine Dl 17 fun K hK=>?_
      obtain⟨fz,mz⟩:=Bb gU
      refine AD 2 8 1 _ (cA.length) _ ([.int .i64 dZ]:Wx) kv fk rfl rfl (by decide) rfl (by rfl) (by kernel_rfl) (by rfl) (by rfl) (Ag.len e3) (fk.rowCell (i:=5) rfl) e3.one (by rw [fz]; simp <;> omega) (by rw [fz]; exact mz) (by decide) fun a7 a8 i3 oe pm j8 (kw:Kn 74 (A5 p q s ac ad aN ae) ((tS 49 a7 cA.length a8)::(tS 48 cg 1 1)::(tI 47 dZ)::(II r_ m k l au cJ av a aC d u aO x y aJ z aN f g)) oe) fl=>?_
      have e4:Ag eu cA (ap++([.int .i64 dZ]:Wx)):=by rw [fz]; exact Ag.append du e3
      obtain rfl:i3=0:=Nat.le_zero.1 j8
      refine hK _ _ fl.plOk ?_
      refine Dl 21 fun K hK=>?_
      obtain⟨hc,di,nz,d2⟩:=fl.settle (i:=0) rfl
      replace b7:=b7.mono (XU (XU dg dh) di)
      replace d2:Ah ⟨w,h,A6⟩ hc (A5 p q s ac ad aN ae) (CQ af r_ ag f g ah ai m k l aa aB ab y aJ z u aO x cQ) [⟨a,aC.length,d,3,1,am,(am:Wx).length⟩,⟨au,cJ.length,av,3,1,dm,0⟩,⟨a7,cA.length,a8,3,1,ap++([.int .i64 dZ]:Wx),0⟩,⟨u,aO.length,x,29,1,aq,0⟩,⟨ef,1,el,3,1,ea,0⟩,⟨cg,1,1,3,1,([.int .i64 dZ]:Wx),0⟩,⟨none,0,0,29,1,[],0⟩] pm:=d2
      have nv:A4 hc a d aC:=⟨_,b7,nz,fl.rowCap (i:=0) rfl⟩
      refine wc [.c (Wu a aC.length d)] kw d2 (CK d6 d2.has aC nv ex53) fun ql ev q0 jb dj h1=>?_
      replace b7:=b7.mono dj
      replace e2:=e2.mono (XU (XU dh di) dj)
      replace e4:=e4.mono (XU di dj)
      replace dv:=dv.mono (XU (XU (XU dg dh) di) dj)
      obtain⟨bh,bj,rfl,nw⟩:=jb
      refine⟨.one (.c (Wu bh gE.length bj)),rfl,fun og (kx:Kn 74 (A5 p q s ac ad aN ae) ((tS 53 bh gE.length bj)::(tS 49 a7 cA.length a8)::(tS 48 cg 1 1)::(tI 47 dZ)::(II r_ m k l au cJ av a aC d u aO x y aJ z aN f g)) og)=>hK _ _ h1.plOk ?_⟩
      refine Dl 22 fun K hK=>?_
      refine BV 6 rfl rfl 29 1 [Wu bh gE.length bj] kx h1 rfl rfl (by decide) (by kernel_rfl) (by rfl) (by rfl) rfl (by decide) fun gy oh q1 (kz:Kn 74 (A5 p q s ac ad aN ae) ((tS 54 gy 1 1)::(tS 53 bh gE.length bj)::(tS 49 a7 cA.length a8)::(tS 48 cg 1 1)::(tI 47 dZ)::(II r_ m k l au cJ av a aC d u aO x y aJ z aN f g)) oh) fm=>?_
      have e5:Ag ev ([gE]:List (List Int)) ([.slice bh gE.length bj]:Wx):=⟨_,_,rfl,((Ad nw):rep ev (gE:List Int) _),rfl⟩
      refine hK _ _ fm.plOk ?_
      refine Dl 23 fun K hK=>?_
      obtain⟨f0,m0⟩:=Bb kM
      refine AD 3 24 1 _ (eQ.length) _ ([.slice bh gE.length bj]:Wx) kz fm rfl rfl (by decide) rfl (by rfl) (by kernel_rfl) (by rfl) (by rfl) (Ag.len e5) (fm.rowCell (i:=6) rfl) e5.one (by rw [f0]; simp <;> omega) (by rw [f0]; exact m0) (by decide) fun bx b3 i4 oi q2 j9 (k0:Kn 74 (A5 p q s ac ad aN ae) ((tS 55 bx eQ.length b3)::(tS 54 gy 1 1)::(tS 53 bh gE.length bj)::(tS 49 a7 cA.length a8)::(tS 48 cg 1 1)::(tI 47 dZ)::(II r_ m k l au cJ av a aC d u aO x y aJ z aN f g)) oi) h2=>?_
      have jr:Ag ev eQ (aq++([.slice bh gE.length bj]:Wx)):=by rw [f0]; exact Ag.append dv e5
      obtain rfl:i4=0:=Nat.le_zero.1 j9
      refine hK _ _ h2.plOk ?_
      refine Cq 25 rfl (by kernel_rfl) (by decide) (rfl) (by kernel_rfl) fun K hK=>?_
      refine EZ 2 0 (.c (Wu au cJ.length av)) [Wu au cJ.length av,Wu y aJ.length z,Wu u aO.length x] k0 h2 fun q3 k1 h3=>hK _ _ ?_
      refine Ao [12,14] (A5 p q s ac ad aN ae) [⟨UB af r_ ag f g ah ai,some 48⟩,⟨[.func m k l],some 123⟩,⟨[Wu au cJ.length av,Wu y aJ.length z,Wu u aO.length x],some 52⟩,⟨Nz cQ,none⟩,⟨Nz cQ,some 87⟩] ?_
      refine Dr [26] [26,25,23,22,21,17,16,15,24,8,7,6,12,14,20,19,18,13,11,10,9,5,4,3,2,1,0] ((tP 57 2 1)::(tS 55 bx eQ.length b3)::(tS 49 a7 cA.length a8)::(Cp aN r_ f g a aC d)) k1 h3 fun p5 k2=>?_
      refine Cq 27 rfl (by kernel_rfl) (by decide) (rfl) (by kernel_rfl) fun K hK=>?_
      refine EZ 2 1 (.c (Wu a7 cA.length a8)) [Wu au cJ.length av,Wu a7 cA.length a8,Wu u aO.length x] k2 h3 fun q4 k4 h4=>hK _ _ ?_
      refine Ao [12,14] (A5 p q s ac ad aN ae) [⟨UB af r_ ag f g ah ai,some 48⟩,⟨[.func m k l],some 123⟩,⟨[Wu au cJ.length av,Wu a7 cA.length a8,Wu u aO.length x],some 52⟩,⟨Nz cQ,none⟩,⟨Nz cQ,some 87⟩] ?_
      refine Dr [28] [28,27,26,25,23,22,21,17,16,15,24,8,7,6,12,14,20,19,18,13,11,10,9,5,4,3,2,1,0] ((tP 58 2 2)::(tS 55 bx eQ.length b3)::(Cp aN r_ f g a aC d)) k4 h4 fun oj k5=>?_
      refine Cq 29 rfl (by kernel_rfl) (by decide) (rfl) (by kernel_rfl) fun K hK=>?_
      refine EZ 2 2 (.c (Wu bx eQ.length b3)) [Wu au cJ.length av,Wu a7 cA.length a8,Wu bx eQ.length b3] k5 h4 fun q5 k6 h5=>hK _ _ ?_
      refine Ao [12,14] (A5 p q s ac ad aN ae) [⟨UB af r_ ag f g ah ai,some 48⟩,⟨[.func m k l],some 123⟩,⟨[Wu au cJ.length av,Wu a7 cA.length a8,Wu bx eQ.length b3],some 52⟩,⟨Nz cQ,none⟩,⟨Nz cQ,some 87⟩] ?_
      have k7:Kn 74 (A5 p q s ac ad aN ae) (Cp aN r_ f g a aC d) oj:=k6.kp
      refine A2 (by kernel_rfl) (Aa (Rk 0 2 [tI 28 (Wt (aN+1)),tI 27 ((r_.lB.length:Nat):Int),tS 26 f r_.lB.length g,tS 5 a aC.length d,tP 4 2 0,tP 3 1 0,tP 2 0 0] k7 h5 fun p6 k8=>?_))
      refine wf ?_
      exact XY d6 ⟨Xc _,XY aC ⟨cJ,cA,eQ,Wt (aN+1),a,d,am,(am:Wx).length,au,av,dm,a7,a8,ap++([.int .i64 dZ]:Wx),bx,b3,aq++([.slice bh gE.length bj]:Wx),_,_,rfl,(k8.keep [28,27,26,5,4,3,2] (by rfl)).cut 3 (by kernel_rfl),(h5.cutRw 4).cutPl 3 (by kernel_rfl),XU ck (XU dg (XU dh (XU di dj))),b7,e2,e4,jr,ar⟩⟩
     refine Bc (fun W=>∀ (cq:Ww),∀ (cx:Nat),∀ (eb:Wx),∀ (eg:Ww),∀ (em:Nat),∀ (ec:Wx),∀ a' w',(∃ (gd:Array Value)(c1:Ae),a' = ⟨gd,[]⟩∧Kn 74 (A5 p q s ac ad aN ae) ((44,.one (.c (.func m k l)))::(tP 56 2 0)::(tS 40 cq cJ.length cx)::(tS 52 a aC.length d)::(tS 51 u aO.length x)::(tP 45 0 1)::(tS 42 y aJ.length z)::(Cp aN r_ f g a aC d)) gd∧Ah ⟨w,h,A6⟩ c1 (A5 p q s ac ad aN ae) (CQ af r_ ag f g ah ai m k l aa aB ab y aJ z u aO x cQ) [⟨a,aC.length,d,3,1,am,ax⟩,⟨cq,cJ.length,cx,3,1,eb,0⟩,⟨y,aJ.length,z,3,1,ap,0⟩,⟨u,aO.length,x,29,1,aq,0⟩,⟨eg,1,em,3,1,ec,0⟩,⟨none,0,0,3,1,[],0⟩,⟨none,0,0,29,1,[],0⟩] w'∧Ae.le ak c1∧Ag c1 cJ eb∧Ag c1 ([cR]:List Int) ec)→W (A5 p q s ac ad aN ae) (CQ af r_ ag f g ah ai m k l aa aB ab y aJ z u aO x cQ) [24,8,7,6,12,20,19,18,13,11,10,9,5,4,3,2,1,0] a' w') ?_ (fun im=>?_)
     ·
      intro cq cx eb eg em ec
      rintro _ q6 ⟨gd,c1,rfl,la,fo,m6,js,jt⟩
      refine Dl 14 fun K hK=>?_
      refine Bk la fo.plOk rfl (by decide) (by kernel_rfl) fun ok (lb:Kn 74 (A5 p q s ac ad aN ae) ((tA 46 (UJ r_))::(44,.one (.c (.func m k l)))::(tP 56 2 0)::(tS 40 cq cJ.length cx)::(tS 52 a aC.length d)::(tS 51 u aO.length x)::(tP 45 0 1)::(tS 42 y aJ.length z)::(Cp aN r_ f g a aC d)) ok)=>hK _ _ fo.plOk ?_
      refine Ax [24,8,7,6,12,14,20,19,18,13,11,10,9,5,4,3,2,1,0] (by kernel_rfl) (by rfl) (f6 cq cx eb eg em ec _ _ ?_)
      exact XY _ ⟨_,rfl,lb.kp,fo,m6,js,jt⟩
     refine Bc (fun W=>∀ (cr:Ww),∀ (cy:Nat),∀ (ed:Wx),∀ (eh:Ww),∀ (en:Nat),∀ (ee:Wx),∀ a' w',(∃ (gf:Array Value)(c2:Ae),a' = ⟨gf,[]⟩∧Kn 74 (A5 p q s ac ad aN ae) ((tA 46 (UJ r_))::(tP 56 2 0)::(tS 40 cr cJ.length cy)::(tS 52 a aC.length d)::(tS 51 u aO.length x)::(tP 43 1 0)::(tS 42 y aJ.length z)::(Cp aN r_ f g a aC d)) gf∧Ah ⟨w,h,A6⟩ c2 (A5 p q s ac ad aN ae) (CQ af r_ ag f g ah ai m k l aa aB ab y aJ z u aO x cQ) [⟨a,aC.length,d,3,1,am,ax⟩,⟨cr,cJ.length,cy,3,1,ed,0⟩,⟨y,aJ.length,z,3,1,ap,0⟩,⟨u,aO.length,x,29,1,aq,0⟩,⟨eh,1,en,3,1,ee,0⟩,⟨none,0,0,3,1,[],0⟩,⟨none,0,0,29,1,[],0⟩] w'∧Ae.le ak c2∧Ag c2 cJ ed∧Ag c2 ([cR]:List Int) ee)→W (A5 p q s ac ad aN ae) (CQ af r_ ag f g ah ai m k l aa aB ab y aJ z u aO x cQ) [24,8,7,6,14,20,19,18,13,11,10,9,5,4,3,2,1,0] a' w') ?_ (fun io=>?_)
     ·
      intro cr cy ed eh en ee
      rintro _ q7 ⟨gf,c2,rfl,ld,fp,m7,ju,jv⟩
      refine Dl 12 fun K hK=>?_
      refine Bk ld fp.plOk rfl (by decide) (by kernel_rfl) fun ol (lf:Kn 74 (A5 p q s ac ad aN ae) ((44,.one (.c (.func m k l)))::(tA 46 (UJ r_))::(tP 56 2 0)::(tS 40 cr cJ.length cy)::(tS 52 a aC.length d)::(tS 51 u aO.length x)::(tP 43 1 0)::(tS 42 y aJ.length z)::(Cp aN r_ f g a aC d)) ol)=>hK _ _ fp.plOk ?_
      refine Ax [24,8,7,6,12,14,20,19,18,13,11,10,9,5,4,3,2,1,0] (by kernel_rfl) (by rfl) (f6 cr cy ed eh en ee _ _ ?_)
      exact XY _ ⟨_,rfl,lf.kp,fp,m7,ju,jv⟩
     refine Bc (fun W=>∀ (ct:Ww),∀ (cz:Nat),∀ (cd:Wx),∀ a' w',(∃ (gg:Array Value)(c3:Ae),a' = ⟨gg,[]⟩∧Kn 74 (A5 p q s ac ad aN ae) ((tA 46 (UJ r_))::(44,.one (.c (.func m k l)))::(tS 39 ct 1 cz)::(tS 52 a aC.length d)::(tS 51 u aO.length x)::(DD y aJ z aa aB ab aN r_ f g a aC d)) gg∧Ah ⟨w,h,A6⟩ c3 (A5 p q s ac ad aN ae) (CQ af r_ ag f g ah ai m k l aa aB ab y aJ z u aO x cQ) [⟨a,aC.length,d,3,1,am,ax⟩,⟨aa,aB.length,ab,3,1,al,0⟩,⟨y,aJ.length,z,3,1,ap,0⟩,⟨u,aO.length,x,29,1,aq,0⟩,⟨ct,1,cz,3,1,cd,0⟩,⟨none,0,0,3,1,[],0⟩,⟨none,0,0,29,1,[],0⟩] w'∧Ae.le ak c3∧Ag c3 ([cR]:List Int) cd)→W (A5 p q s ac ad aN ae) (CQ af r_ ag f g ah ai m k l aa aB ab y aJ z u aO x cQ) [7,6,12,14,20,19,18,13,11,10,9,5,4,3,2,1,0] a' w') ?_ (fun f7=>?_)
     ·
      intro ct cz cd
      rintro _ q8 ⟨gg,c3,rfl,lg,h6,hr,dw⟩
      replace a5:=a5.mono hr
      refine Dl 8 fun K hK=>?_
      obtain⟨f1,m1⟩:=Bb gL
      refine AD 1 8 1 _ (cJ.length) _ cd lg h6 rfl rfl (by decide) rfl (by rfl) (by kernel_rfl) (by rfl) (by rfl) (Ag.len dw) (h6.rowCell (i:=4) rfl) dw.one (by rw [f1]; simp <;> omega) (by rw [f1]; exact m1) (by decide) fun ei eo i5 om q9 ka (lh:Kn 74 (A5 p q s ac ad aN ae) ((tS 40 ei cJ.length eo)::(tA 46 (UJ r_))::(44,.one (.c (.func m k l)))::(tS 39 ct 1 cz)::(tS 52 a aC.length d)::(tS 51 u aO.length x)::(DD y aJ z aa aB ab aN r_ f g a aC d)) om) fq=>?_
      have jx:Ag c3 cJ (al++cd):=by rw [f1]; exact Ag.append a5 dw
      obtain rfl:i5=0:=Nat.le_zero.1 ka
      refine hK _ _ fq.plOk ?_
      refine Dr [24] [24,8,7,6,12,14,20,19,18,13,11,10,9,5,4,3,2,1,0] ((tP 56 2 0)::(tS 40 ei cJ.length eo)::(tA 46 (UJ r_))::(44,.one (.c (.func m k l)))::(tS 52 a aC.length d)::(tS 51 u aO.length x)::(tS 42 y aJ.length z)::(Cp aN r_ f g a aC d)) lh fq fun p9 li=>?_
      refine Ax [24,8,7,6,12,14,20,19,18,13,11,10,9,5,4,3,2,1,0] (by kernel_rfl) (by rfl) (f6 ei eo (al++cd) ct cz cd _ _ ?_)
      exact XY _ ⟨_,rfl,li.kp,fq,hr,jx,dw⟩
     refine Bc (fun W=>∀ (bz:Ww),∀ (b4:Nat),∀ (bu:Wx),∀ a' w',(∃ (gh:Array Value)(c4:Ae),a' = ⟨gh,[]⟩∧Kn 74 (A5 p q s ac ad aN ae) ((44,.one (.c (.func m k l)))::(tS 39 bz 1 b4)::(tS 52 a aC.length d)::(tS 51 u aO.length x)::(tP 45 0 1)::(DD y aJ z aa aB ab aN r_ f g a aC d)) gh∧Ah ⟨w,h,A6⟩ c4 (A5 p q s ac ad aN ae) (CQ af r_ ag f g ah ai m k l aa aB ab y aJ z u aO x cQ) [⟨a,aC.length,d,3,1,am,ax⟩,⟨aa,aB.length,ab,3,1,al,0⟩,⟨y,aJ.length,z,3,1,ap,0⟩,⟨u,aO.length,x,29,1,aq,0⟩,⟨bz,1,b4,3,1,bu,0⟩,⟨none,0,0,3,1,[],0⟩,⟨none,0,0,29,1,[],0⟩] w'∧Ae.le ak c4∧Ag c4 ([cR]:List Int) bu)→W (A5 p q s ac ad aN ae) (CQ af r_ ag f g ah ai m k l aa aB ab y aJ z u aO x cQ) [7,6,12,20,19,18,13,11,10,9,5,4,3,2,1,0] a' w') ?_ (fun ip=>?_)
     ·
      intro bz b4 bu
      rintro _ ra ⟨gh,c4,rfl,hf,dk,fe,de⟩
      replace a5:=a5.mono fe
      refine D0 8 14 rfl rfl (by kernel_rfl) (by decide) (rfl) (rfl) (fun K hK=>?_) (fun K hK=>?_)
      ·
       obtain⟨f2,m2⟩:=Bb gL
       refine AD 1 8 1 _ (cJ.length) _ bu hf dk rfl rfl (by decide) rfl (by rfl) (by kernel_rfl) (by rfl) (by rfl) (Ag.len de) (dk.rowCell (i:=4) rfl) de.one (by rw [f2]; simp <;> omega) (by rw [f2]; exact m2) (by decide) fun ej ep i6 oo rb kb (lj:Kn 74 (A5 p q s ac ad aN ae) ((tS 40 ej cJ.length ep)::(44,.one (.c (.func m k l)))::(tS 39 bz 1 b4)::(tS 52 a aC.length d)::(tS 51 u aO.length x)::(tP 45 0 1)::(DD y aJ z aa aB ab aN r_ f g a aC d)) oo) fs=>?_
       have jy:Ag c4 cJ (al++bu):=by rw [f2]; exact Ag.append a5 de
       obtain rfl:i6=0:=Nat.le_zero.1 kb
       refine hK _ _ fs.plOk ?_
       refine Dr [24] [24,8,7,6,12,20,19,18,13,11,10,9,5,4,3,2,1,0] ((tP 56 2 0)::(tS 40 ej cJ.length ep)::(44,.one (.c (.func m k l)))::(tS 52 a aC.length d)::(tS 51 u aO.length x)::(tP 45 0 1)::(tS 42 y aJ.length z)::(Cp aN r_ f g a aC d)) lj fs fun qa lk=>?_
       refine Ax [24,8,7,6,12,20,19,18,13,11,10,9,5,4,3,2,1,0] (by kernel_rfl) (by rfl) (im ej ep (al++bu) bz b4 bu _ _ ?_)
       exact XY _ ⟨_,rfl,lk.kp,fs,fe,jy,de⟩
      ·
       refine Bk hf dk.plOk rfl (by decide) (by kernel_rfl) fun op (ll:Kn 74 (A5 p q s ac ad aN ae) ((tA 46 (UJ r_))::(44,.one (.c (.func m k l)))::(tS 39 bz 1 b4)::(tS 52 a aC.length d)::(tS 51 u aO.length x)::(tP 45 0 1)::(DD y aJ z aa aB ab aN r_ f g a aC d)) op)=>hK _ _ dk.plOk ?_
       refine Ax [7,6,12,14,20,19,18,13,11,10,9,5,4,3,2,1,0] (by kernel_rfl) (by rfl) (f7 bz b4 bu _ _ ?_)
       exact XY _ ⟨_,rfl,ll.kp,dk,fe,de⟩
     refine Bc (fun W=>∀ (b0:Ww),∀ (b5:Nat),∀ (bv:Wx),∀ a' w',(∃ (gi:Array Value)(c5:Ae),a' = ⟨gi,[]⟩∧Kn 74 (A5 p q s ac ad aN ae) ((tA 46 (UJ r_))::(tS 39 b0 1 b5)::(tS 52 a aC.length d)::(tS 51 u aO.length x)::(tP 43 1 0)::(DD y aJ z aa aB ab aN r_ f g a aC d)) gi∧Ah ⟨w,h,A6⟩ c5 (A5 p q s ac ad aN ae) (CQ af r_ ag f g ah ai m k l aa aB ab y aJ z u aO x cQ) [⟨a,aC.length,d,3,1,am,ax⟩,⟨aa,aB.length,ab,3,1,al,0⟩,⟨y,aJ.length,z,3,1,ap,0⟩,⟨u,aO.length,x,29,1,aq,0⟩,⟨b0,1,b5,3,1,bv,0⟩,⟨none,0,0,3,1,[],0⟩,⟨none,0,0,29,1,[],0⟩] w'∧Ae.le ak c5∧Ag c5 ([cR]:List Int) bv)→W (A5 p q s ac ad aN ae) (CQ af r_ ag f g ah ai m k l aa aB ab y aJ z u aO x cQ) [7,6,14,20,19,18,13,11,10,9,5,4,3,2,1,0] a' w') ?_ (fun iq=>?_)
     ·
      intro b0 b5 bv
      rintro _ rc ⟨gi,c5,rfl,hg,dl,ff,df⟩
      replace a5:=a5.mono ff
      refine D0 8 12 rfl rfl (by kernel_rfl) (by decide) (rfl) (rfl) (fun K hK=>?_) (fun K hK=>?_)
      ·
       obtain⟨f3,m3⟩:=Bb gL
       refine AD 1 8 1 _ (cJ.length) _ bv hg dl rfl rfl (by decide) rfl (by rfl) (by kernel_rfl) (by rfl) (by rfl) (Ag.len df) (dl.rowCell (i:=4) rfl) df.one (by rw [f3]; simp <;> omega) (by rw [f3]; exact m3) (by decide) fun ek er i7 oq rd kc (lm:Kn 74 (A5 p q s ac ad aN ae) ((tS 40 ek cJ.length er)::(tA 46 (UJ r_))::(tS 39 b0 1 b5)::(tS 52 a aC.length d)::(tS 51 u aO.length x)::(tP 43 1 0)::(DD y aJ z aa aB ab aN r_ f g a aC d)) oq) ft=>?_
       have jz:Ag c5 cJ (al++bv):=by rw [f3]; exact Ag.append a5 df
       obtain rfl:i7=0:=Nat.le_zero.1 kc
       refine hK _ _ ft.plOk ?_
       refine Dr [24] [24,8,7,6,14,20,19,18,13,11,10,9,5,4,3,2,1,0] ((tP 56 2 0)::(tS 40 ek cJ.length er)::(tA 46 (UJ r_))::(tS 52 a aC.length d)::(tS 51 u aO.length x)::(tP 43 1 0)::(tS 42 y aJ.length z)::(Cp aN r_ f g a aC d)) lm ft fun qb ln=>?_
       refine Ax [24,8,7,6,14,20,19,18,13,11,10,9,5,4,3,2,1,0] (by kernel_rfl) (by rfl) (io ek er (al++bv) b0 b5 bv _ _ ?_)
       exact XY _ ⟨_,rfl,ln.kp,ft,ff,jz,df⟩
      ·
       refine Bk hg dl.plOk rfl (by decide) (by kernel_rfl) fun os (lp:Kn 74 (A5 p q s ac ad aN ae) ((44,.one (.c (.func m k l)))::(tA 46 (UJ r_))::(tS 39 b0 1 b5)::(tS 52 a aC.length d)::(tS 51 u aO.length x)::(tP 43 1 0)::(DD y aJ z aa aB ab aN r_ f g a aC d)) os)=>hK _ _ dl.plOk ?_
       refine Ax [7,6,12,14,20,19,18,13,11,10,9,5,4,3,2,1,0] (by kernel_rfl) (by rfl) (f7 b0 b5 bv _ _ ?_)
       exact XY _ ⟨_,rfl,lp.kp,dl,ff,df⟩
     refine Bc (fun W=>∀ a' w',(∃ (gj:Array Value)(c6:Ae),a' = ⟨gj,[]⟩∧Kn 74 (A5 p q s ac ad aN ae) ((tA 46 (UJ r_))::(44,.one (.c (.func m k l)))::(tI 38 cR)::(tS 52 a aC.length d)::(tS 51 u aO.length x)::(DD y aJ z aa aB ab aN r_ f g a aC d)) gj∧Ah ⟨w,h,A6⟩ c6 (A5 p q s ac ad aN ae) (CQ af r_ ag f g ah ai m k l aa aB ab y aJ z u aO x cQ) (LS a aC d am ax aa aB ab al y aJ z ap u aO x aq) w'∧Ae.le ak c6)→W (A5 p q s ac ad aN ae) (CQ af r_ ag f g ah ai m k l aa aB ab y aJ z u aO x cQ) [6,12,14,20,19,18,13,11,10,9,5,4,3,2,1,0] a' w') ?_ (fun f8=>?_)
     ·
      rintro _ re ⟨gj,c6,rfl,lq,nm,m8⟩
      refine Dl 7 fun K hK=>?_
      refine BV 4 rfl rfl 3 1 [Ws cR] lq nm rfl rfl (by decide) (by kernel_rfl) (by rfl) (by rfl) rfl (by decide) fun gz ot rf (lr:Kn 74 (A5 p q s ac ad aN ae) ((tS 39 gz 1 1)::(tA 46 (UJ r_))::(44,.one (.c (.func m k l)))::(tI 38 cR)::(tS 52 a aC.length d)::(tS 51 u aO.length x)::(DD y aJ z aa aB ab aN r_ f g a aC d)) ot) h7=>?_
      have j0:Ag c6 ([cR]:List Int) ([.int .i64 cR]:Wx):=⟨_,_,rfl,(Ac:rep c6 (cR:Int) _),rfl⟩
      refine hK _ _ h7.plOk ?_
      refine Ax [7,6,12,14,20,19,18,13,11,10,9,5,4,3,2,1,0] (by kernel_rfl) (by rfl) (f7 gz 1 ([.int .i64 cR]:Wx) _ _ ?_)
      exact XY _ ⟨_,rfl,lr.kp,h7,m8,j0⟩
     refine Bc (fun W=>∀ a' w',(∃ (gk:Array Value)(c7:Ae),a' = ⟨gk,[]⟩∧Kn 74 (A5 p q s ac ad aN ae) ((44,.one (.c (.func m k l)))::(tI 38 cR)::(tS 52 a aC.length d)::(tS 51 u aO.length x)::(tP 45 0 1)::(DD y aJ z aa aB ab aN r_ f g a aC d)) gk∧Ah ⟨w,h,A6⟩ c7 (A5 p q s ac ad aN ae) (CQ af r_ ag f g ah ai m k l aa aB ab y aJ z u aO x cQ) (LS a aC d am ax aa aB ab al y aJ z ap u aO x aq) w'∧Ae.le ak c7)→W (A5 p q s ac ad aN ae) (CQ af r_ ag f g ah ai m k l aa aB ab y aJ z u aO x cQ) [6,12,20,19,18,13,11,10,9,5,4,3,2,1,0] a' w') ?_ (fun ir=>?_)
     ·
      rintro _ rg ⟨gk,c7,rfl,hl,d3,hs⟩
      refine D0 7 14 rfl rfl (by kernel_rfl) (by decide) (rfl) (rfl) (fun K hK=>?_) (fun K hK=>?_)
      ·
       refine BV 4 rfl rfl 3 1 [Ws cR] hl d3 rfl rfl (by decide) (by kernel_rfl) (by rfl) (by rfl) rfl (by decide) fun g0 ou rh (ls:Kn 74 (A5 p q s ac ad aN ae) ((tS 39 g0 1 1)::(44,.one (.c (.func m k l)))::(tI 38 cR)::(tS 52 a aC.length d)::(tS 51 u aO.length x)::(tP 45 0 1)::(DD y aJ z aa aB ab aN r_ f g a aC d)) ou) h8=>?_
       have j1:Ag c7 ([cR]:List Int) ([.int .i64 cR]:Wx):=⟨_,_,rfl,(Ac:rep c7 (cR:Int) _),rfl⟩
       refine hK _ _ h8.plOk ?_
       refine Ax [7,6,12,20,19,18,13,11,10,9,5,4,3,2,1,0] (by kernel_rfl) (by rfl) (ip g0 1 ([.int .i64 cR]:Wx) _ _ ?_)
       exact XY _ ⟨_,rfl,ls.kp,h8,hs,j1⟩
      ·
       refine Bk hl d3.plOk rfl (by decide) (by kernel_rfl) fun ov (lu:Kn 74 (A5 p q s ac ad aN ae) ((tA 46 (UJ r_))::(44,.one (.c (.func m k l)))::(tI 38 cR)::(tS 52 a aC.length d)::(tS 51 u aO.length x)::(tP 45 0 1)::(DD y aJ z aa aB ab aN r_ f g a aC d)) ov)=>hK _ _ d3.plOk ?_
       refine Ax [6,12,14,20,19,18,13,11,10,9,5,4,3,2,1,0] (by kernel_rfl) (by rfl) (f8 _ _ ?_)
       exact XY _ ⟨_,rfl,lu.kp,d3,hs⟩
     refine Bc (fun W=>∀ a' w',(∃ (gl:Array Value)(c8:Ae),a' = ⟨gl,[]⟩∧Kn 74 (A5 p q s ac ad aN ae) ((tA 46 (UJ r_))::(tI 38 cR)::(tS 52 a aC.length d)::(tS 51 u aO.length x)::(tP 43 1 0)::(DD y aJ z aa aB ab aN r_ f g a aC d)) gl∧Ah ⟨w,h,A6⟩ c8 (A5 p q s ac ad aN ae) (CQ af r_ ag f g ah ai m k l aa aB ab y aJ z u aO x cQ) (LS a aC d am ax aa aB ab al y aJ z ap u aO x aq) w'∧Ae.le ak c8)→W (A5 p q s ac ad aN ae) (CQ af r_ ag f g ah ai m k l aa aB ab y aJ z u aO x cQ) [6,14,20,19,18,13,11,10,9,5,4,3,2,1,0] a' w') ?_ (fun iu=>?_)
     ·
      rintro _ ri ⟨gl,c8,rfl,hn,d4,ht⟩
      refine D0 7 12 rfl rfl (by kernel_rfl) (by decide) (rfl) (rfl) (fun K hK=>?_) (fun K hK=>?_)
      ·
       refine BV 4 rfl rfl 3 1 [Ws cR] hn d4 rfl rfl (by decide) (by kernel_rfl) (by rfl) (by rfl) rfl (by decide) fun g1 ow rj (lv:Kn 74 (A5 p q s ac ad aN ae) ((tS 39 g1 1 1)::(tA 46 (UJ r_))::(tI 38 cR)::(tS 52 a aC.length d)::(tS 51 u aO.length x)::(tP 43 1 0)::(DD y aJ z aa aB ab aN r_ f g a aC d)) ow) h9=>?_
       have j3:Ag c8 ([cR]:List Int) ([.int .i64 cR]:Wx):=⟨_,_,rfl,(Ac:rep c8 (cR:Int) _),rfl⟩
       refine hK _ _ h9.plOk ?_
       refine Ax [7,6,14,20,19,18,13,11,10,9,5,4,3,2,1,0] (by kernel_rfl) (by rfl) (iq g1 1 ([.int .i64 cR]:Wx) _ _ ?_)
       exact XY _ ⟨_,rfl,lv.kp,h9,ht,j3⟩
      ·
       refine Bk hn d4.plOk rfl (by decide) (by kernel_rfl) fun ox (lw:Kn 74 (A5 p q s ac ad aN ae) ((44,.one (.c (.func m k l)))::(tA 46 (UJ r_))::(tI 38 cR)::(tS 52 a aC.length d)::(tS 51 u aO.length x)::(tP 43 1 0)::(DD y aJ z aa aB ab aN r_ f g a aC d)) ox)=>hK _ _ d4.plOk ?_
       refine Ax [6,12,14,20,19,18,13,11,10,9,5,4,3,2,1,0] (by kernel_rfl) (by rfl) (f8 _ _ ?_)
       exact XY _ ⟨_,rfl,lw.kp,d4,ht⟩
     refine Bc (fun W=>∀ a' w',(∃ (gm:Array Value)(dt:Ae),a' = ⟨gm,[]⟩∧Kn 74 (A5 p q s ac ad aN ae) ((tA 46 (UJ r_))::(44,.one (.c (.func m k l)))::(tS 52 a aC.length d)::(tS 51 u aO.length x)::(tS 42 y aJ.length z)::(tA 37 (VX cQ))::(35,.one (.c (.func m k l)))::(tS 33 aa aB.length ab)::(Cp aN r_ f g a aC d)) gm∧Ah ⟨w,h,A6⟩ dt (A5 p q s ac ad aN ae) (CQ af r_ ag f g ah ai m k l aa aB ab y aJ z u aO x cQ) (LS a aC d am ax aa aB ab al y aJ z ap u aO x aq) w'∧Ae.le ak dt)→W (A5 p q s ac ad aN ae) (CQ af r_ ag f g ah ai m k l aa aB ab y aJ z u aO x cQ) [12,14,20,19,18,13,11,10,9,5,4,3,2,1,0] a' w') ?_ (fun iv=>?_)
     ·
      rintro _ rk ⟨gm,dt,rfl,lx,ia,hu⟩
      replace aw:=aw.mono hu
      refine Dl 6 fun K hK=>?_
      refine D1 (.func m k l) [.agg (VX cQ)] _ lx ia rfl rfl (by decide) (by rfl) (by rfl) rfl (aw _ _ (Ae.le_refl _) ia.has cQ.tm _ ((Ab Ac Ac):rep dt cQ.tm _) _ iH) fun qm pr rl jc m9 ib=>?_
      obtain rfl:=jc
      refine⟨.one (.c (Ws cR)),rfl,fun oy (ly:Kn 74 (A5 p q s ac ad aN ae) ((tI 38 cR)::(tA 46 (UJ r_))::(44,.one (.c (.func m k l)))::(tS 52 a aC.length d)::(tS 51 u aO.length x)::(tS 42 y aJ.length z)::(tA 37 (VX cQ))::(35,.one (.c (.func m k l)))::(tS 33 aa aB.length ab)::(Cp aN r_ f g a aC d)) oy)=>hK _ _ ib.plOk ?_⟩
      refine Ax [6,12,14,20,19,18,13,11,10,9,5,4,3,2,1,0] (by kernel_rfl) (by rfl) (f8 _ _ ?_)
      exact XY _ ⟨_,rfl,ly.kp,ib,XU hu m9⟩
     refine H4 6 12 14 rfl rfl rfl (by kernel_rfl) (by decide) (rfl) (rfl) (rfl) (fun K hK=>?_) (fun K hK=>?_) (fun K hK=>?_)
     ·
      refine D1 (.func m k l) [.agg (VX cQ)] _ e9 a0 rfl rfl (by decide) (by rfl) (by rfl) rfl (aw _ _ (Ae.le_refl _) a0.has cQ.tm _ ((Ab Ac Ac):rep ak cQ.tm _) _ iH) fun qn ew rm jd ca bs=>?_
      replace a5:=a5.mono ca
      obtain rfl:=jd
      refine⟨.one (.c (Ws cR)),rfl,fun oz (fa:Kn 74 (A5 p q s ac ad aN ae) ((tI 38 cR)::(E8 a aC d u aO x y aJ z cQ m k l aa aB ab aN r_ f g)) oz)=>hK _ _ bs.plOk ?_⟩
      refine H4 7 12 14 rfl rfl rfl (by kernel_rfl) (by decide) (rfl) (rfl) (rfl) (fun K hK=>?_) (fun K hK=>?_) (fun K hK=>?_)
      ·
       refine BV 4 rfl rfl 3 1 [Ws cR] fa bs rfl rfl (by decide) (by kernel_rfl) (by rfl) (by rfl) rfl (by decide) fun bp o0 rn (fb:Kn 74 (A5 p q s ac ad aN ae) ((tS 39 bp 1 1)::(tI 38 cR)::(E8 a aC d u aO x y aJ z cQ m k l aa aB ab aN r_ f g)) o0) bm=>?_
       have b8:Ag ew ([cR]:List Int) ([.int .i64 cR]:Wx):=⟨_,_,rfl,(Ac:rep ew (cR:Int) _),rfl⟩
       refine hK _ _ bm.plOk ?_
       refine H4 8 12 14 rfl rfl rfl (by kernel_rfl) (by decide) (rfl) (rfl) (rfl) (fun K hK=>?_) (fun K hK=>?_) (fun K hK=>?_)
       ·
        obtain⟨f4,m4⟩:=Bb gL
        refine AD 1 8 1 _ (cJ.length) _ ([.int .i64 cR]:Wx) fb bm rfl rfl (by decide) rfl (by rfl) (by kernel_rfl) (by rfl) (by rfl) (Ag.len b8) (bm.rowCell (i:=4) rfl) b8.one (by rw [f4]; simp <;> omega) (by rw [f4]; exact m4) (by decide) fun ch ci i8 o1 ro kd (lz:Kn 74 (A5 p q s ac ad aN ae) ((tS 40 ch cJ.length ci)::(tS 39 bp 1 1)::(tI 38 cR)::(E8 a aC d u aO x y aJ z cQ m k l aa aB ab aN r_ f g)) o1) bt=>?_
        have he:Ag ew cJ (al++([.int .i64 cR]:Wx)):=by rw [f4]; exact Ag.append a5 b8
        obtain rfl:i8=0:=Nat.le_zero.1 kd
        refine hK _ _ bt.plOk ?_
        refine Dr [24] [24,8,7,6,20,19,18,13,11,10,9,5,4,3,2,1,0] ((tP 56 2 0)::(tS 40 ch cJ.length ci)::(tS 52 a aC.length d)::(tS 51 u aO.length x)::(tP 45 0 1)::(tP 43 1 0)::(tS 42 y aJ.length z)::(Cp aN r_ f g a aC d)) lz bt fun qc ho=>?_
        refine D0 12 14 rfl rfl (by kernel_rfl) (by decide) (rfl) (rfl) (fun K hK=>?_) (fun K hK=>?_)
        ·
         refine Bk ho bt.plOk rfl (by decide) (by kernel_rfl) fun o2 (l0:Kn 74 (A5 p q s ac ad aN ae) ((44,.one (.c (.func m k l)))::(tP 56 2 0)::(tS 40 ch cJ.length ci)::(tS 52 a aC.length d)::(tS 51 u aO.length x)::(tP 45 0 1)::(tP 43 1 0)::(tS 42 y aJ.length z)::(Cp aN r_ f g a aC d)) o2)=>hK _ _ bt.plOk ?_
         refine Ax [24,8,7,6,12,20,19,18,13,11,10,9,5,4,3,2,1,0] (by kernel_rfl) (by rfl) (im ch ci (al++([.int .i64 cR]:Wx)) bp 1 ([.int .i64 cR]:Wx) _ _ ?_)
         exact XY _ ⟨_,rfl,l0.kp,bt,ca,he,b8⟩
        ·
         refine Bk ho bt.plOk rfl (by decide) (by kernel_rfl) fun o3 (l1:Kn 74 (A5 p q s ac ad aN ae) ((tA 46 (UJ r_))::(tP 56 2 0)::(tS 40 ch cJ.length ci)::(tS 52 a aC.length d)::(tS 51 u aO.length x)::(tP 45 0 1)::(tP 43 1 0)::(tS 42 y aJ.length z)::(Cp aN r_ f g a aC d)) o3)=>hK _ _ bt.plOk ?_
         refine Ax [24,8,7,6,14,20,19,18,13,11,10,9,5,4,3,2,1,0] (by kernel_rfl) (by rfl) (io ch ci (al++([.int .i64 cR]:Wx)) bp 1 ([.int .i64 cR]:Wx) _ _ ?_)
         exact XY _ ⟨_,rfl,l1.kp,bt,ca,he,b8⟩
       ·
        refine Bk fb bm.plOk rfl (by decide) (by kernel_rfl) fun o4 (l2:Kn 74 (A5 p q s ac ad aN ae) ((44,.one (.c (.func m k l)))::(tS 39 bp 1 1)::(tI 38 cR)::(E8 a aC d u aO x y aJ z cQ m k l aa aB ab aN r_ f g)) o4)=>hK _ _ bm.plOk ?_
        refine Ax [7,6,12,20,19,18,13,11,10,9,5,4,3,2,1,0] (by kernel_rfl) (by rfl) (ip bp 1 ([.int .i64 cR]:Wx) _ _ ?_)
        exact XY _ ⟨_,rfl,l2.kp,bm,ca,b8⟩
       ·
        refine Bk fb bm.plOk rfl (by decide) (by kernel_rfl) fun o5 (l3:Kn 74 (A5 p q s ac ad aN ae) ((tA 46 (UJ r_))::(tS 39 bp 1 1)::(tI 38 cR)::(E8 a aC d u aO x y aJ z cQ m k l aa aB ab aN r_ f g)) o5)=>hK _ _ bm.plOk ?_
        refine Ax [7,6,14,20,19,18,13,11,10,9,5,4,3,2,1,0] (by kernel_rfl) (by rfl) (iq bp 1 ([.int .i64 cR]:Wx) _ _ ?_)
        exact XY _ ⟨_,rfl,l3.kp,bm,ca,b8⟩
      ·
       refine Bk fa bs.plOk rfl (by decide) (by kernel_rfl) fun o6 (l4:Kn 74 (A5 p q s ac ad aN ae) ((44,.one (.c (.func m k l)))::(tI 38 cR)::(E8 a aC d u aO x y aJ z cQ m k l aa aB ab aN r_ f g)) o6)=>hK _ _ bs.plOk ?_
       refine Ax [6,12,20,19,18,13,11,10,9,5,4,3,2,1,0] (by kernel_rfl) (by rfl) (ir _ _ ?_)
       exact XY _ ⟨_,rfl,l4.kp,bs,ca⟩
      ·
       refine Bk fa bs.plOk rfl (by decide) (by kernel_rfl) fun o7 (l5:Kn 74 (A5 p q s ac ad aN ae) ((tA 46 (UJ r_))::(tI 38 cR)::(E8 a aC d u aO x y aJ z cQ m k l aa aB ab aN r_ f g)) o7)=>hK _ _ bs.plOk ?_
       refine Ax [6,14,20,19,18,13,11,10,9,5,4,3,2,1,0] (by kernel_rfl) (by rfl) (iu _ _ ?_)
       exact XY _ ⟨_,rfl,l5.kp,bs,ca⟩
     ·
      refine Bk e9 a0.plOk rfl (by decide) (by kernel_rfl) fun o8 (hp:Kn 74 (A5 p q s ac ad aN ae) ((44,.one (.c (.func m k l)))::(E8 a aC d u aO x y aJ z cQ m k l aa aB ab aN r_ f g)) o8)=>hK _ _ a0.plOk ?_
      refine D0 6 14 rfl rfl (by kernel_rfl) (by decide) (rfl) (rfl) (fun K hK=>?_) (fun K hK=>?_)
      ·
       refine D1 (.func m k l) [.agg (VX cQ)] _ hp a0 rfl rfl (by decide) (by rfl) (by rfl) rfl (aw _ _ (Ae.le_refl _) a0.has cQ.tm _ ((Ab Ac Ac):rep ak cQ.tm _) _ iH) fun qo ps rp je na ic=>?_
       obtain rfl:=je
       refine⟨.one (.c (Ws cR)),rfl,fun o9 (l6:Kn 74 (A5 p q s ac ad aN ae) ((tI 38 cR)::(44,.one (.c (.func m k l)))::(E8 a aC d u aO x y aJ z cQ m k l aa aB ab aN r_ f g)) o9)=>hK _ _ ic.plOk ?_⟩
       refine Ax [6,12,20,19,18,13,11,10,9,5,4,3,2,1,0] (by kernel_rfl) (by rfl) (ir _ _ ?_)
       exact XY _ ⟨_,rfl,l6.kp,ic,na⟩
      ·
       refine Bk hp a0.plOk rfl (by decide) (by kernel_rfl) fun pa (l7:Kn 74 (A5 p q s ac ad aN ae) ((tA 46 (UJ r_))::(44,.one (.c (.func m k l)))::(E8 a aC d u aO x y aJ z cQ m k l aa aB ab aN r_ f g)) pa)=>hK _ _ a0.plOk ?_
       refine Ax [12,14,20,19,18,13,11,10,9,5,4,3,2,1,0] (by kernel_rfl) (by rfl) (iv _ _ ?_)
       exact XY _ ⟨_,rfl,l7.kp,a0,Ae.le_refl _⟩
     ·
      refine Bk e9 a0.plOk rfl (by decide) (by kernel_rfl) fun pb (hq:Kn 74 (A5 p q s ac ad aN ae) ((tA 46 (UJ r_))::(E8 a aC d u aO x y aJ z cQ m k l aa aB ab aN r_ f g)) pb)=>hK _ _ a0.plOk ?_
      refine D0 6 12 rfl rfl (by kernel_rfl) (by decide) (rfl) (rfl) (fun K hK=>?_) (fun K hK=>?_)
      ·
       refine D1 (.func m k l) [.agg (VX cQ)] _ hq a0 rfl rfl (by decide) (by rfl) (by rfl) rfl (aw _ _ (Ae.le_refl _) a0.has cQ.tm _ ((Ab Ac Ac):rep ak cQ.tm _) _ iH) fun qp pt rq jf nb ie=>?_
       obtain rfl:=jf
       refine⟨.one (.c (Ws cR)),rfl,fun pc (l8:Kn 74 (A5 p q s ac ad aN ae) ((tI 38 cR)::(tA 46 (UJ r_))::(E8 a aC d u aO x y aJ z cQ m k l aa aB ab aN r_ f g)) pc)=>hK _ _ ie.plOk ?_⟩
       refine Ax [6,14,20,19,18,13,11,10,9,5,4,3,2,1,0] (by kernel_rfl) (by rfl) (iu _ _ ?_)
       exact XY _ ⟨_,rfl,l8.kp,ie,nb⟩
      ·
       refine Bk hq a0.plOk rfl (by decide) (by kernel_rfl) fun pd (l9:Kn 74 (A5 p q s ac ad aN ae) ((44,.one (.c (.func m k l)))::(tA 46 (UJ r_))::(E8 a aC d u aO x y aJ z cQ m k l aa aB ab aN r_ f g)) pd)=>hK _ _ a0.plOk ?_
       refine Ax [12,14,20,19,18,13,11,10,9,5,4,3,2,1,0] (by kernel_rfl) (by rfl) (iv _ _ ?_)
       exact XY _ ⟨_,rfl,l9.kp,a0,Ae.le_refl _⟩
    ·
     rw [ez,XV] at ar
     refine wp_exit ?_
     obtain rfl:=XZ ar
     exact XY a ⟨d,am,ax,aa,ab,al,y,z,ap,u,x,aq,_,_,rfl,e8.kp,fj,ck,b7,a5,du,dv⟩
  ·
   rintro _ rt ⟨cp,cw,d8,es,a1,a3,cm,a2,a4,cn,dq,ds,d9,ga,bl,rfl,ma,ig,d0,jo,dc,dd,jp⟩
   replace bd:=bd.mono d0
   replace be:=be.mono d0
   replace bf:=bf.mono d0
   replace aw:=aw.mono d0
   refine XT (XT (Aa (Rk 0 4 [tI 63 0,tI 62 ((r_.lC.length:Nat):Int),tS 5 cp aj.1.length cw,tP 4 2 0] ma ig fun qd mc=>?_)))
   refine wf ?_
   obtain⟨bg,ha,H⟩:=Av H
   refine A0 (fun a' w'=>∃ (g2:Ww)(g7:Nat)(gr:Wx)(hb:Nat)(b1:Ww)(b6:Nat)(gs:Wx)(gp:Array Value)(da:Ae),a' = ⟨gp,[]⟩∧Kn 74 [(p,0),(q,0),(s,0)] [tP 4 2 0] gp∧Ah ⟨w,h,A6⟩ da [(p,0),(q,0),(s,0)] [⟨UB af r_ ag f g ah ai,some 48⟩,⟨[.func m k l],some 123⟩,⟨[Wu a1 aj.2.1.length a3,Wu a2 aj.2.2.1.length a4,Wu b1 bg.2.length b6],some 52⟩] [⟨g2,bg.1.length,g7,3,1,gr,hb⟩,⟨a1,aj.2.1.length,a3,3,1,cm,0⟩,⟨a2,aj.2.2.1.length,a4,3,1,cn,0⟩,⟨b1,bg.2.length,b6,29,1,gs,0⟩] w'∧Ae.le bl da∧Ag da bg.1 gr∧Ag da bg.2 gs) ?_ ?_
   ·
    refine wp_block ?_
    refine Au (fun n7 a' w'=>∃ (aH:List Int)(aL:List (List Int))(cL:Int)(an:Ww)(ao:Nat)(bw:Wx)(et:Nat)(ba:Ww)(bb:Nat)(cf:Wx)(gq:Array Value)(db:Ae),a' = ⟨gq,[]⟩∧Kn 74 [(p,0),(q,0),(s,0)] (HC cL r_ an aH ao) gq∧Ah ⟨w,h,A6⟩ db [(p,0),(q,0),(s,0)] [⟨UB af r_ ag f g ah ai,some 48⟩,⟨[.func m k l],some 123⟩,⟨[Wu a1 aj.2.1.length a3,Wu a2 aj.2.2.1.length a4,Wu ba aL.length bb],some 52⟩] [⟨an,aH.length,ao,3,1,bw,et⟩,⟨a1,aj.2.1.length,a3,3,1,cm,0⟩,⟨a2,aj.2.2.1.length,a4,3,1,cn,0⟩,⟨ba,aL.length,bb,29,1,cf,0⟩] w'∧Ae.le bl db∧Ag db aH bw∧Ag db aL cf∧BJ n7 r_ aH aL cL=some bg) n ?_ ?_
    ·
     exact XY aj.1 ⟨aj.2.2.2,0,cp,cw,d8,es,dq,ds,d9,_,_,rfl,mc.kp,ig,Ae.le_refl _,jo,jp,ha⟩
    ·
     rintro d7 _ po ⟨aH,aL,cL,an,ao,bw,et,ba,bb,cf,gq,db,rfl,md,cb,br,b9,dy,bc⟩
     clear ha
     obtain _ | d7:=d7
     ·
      rw [BJ] at bc; cases bc
     rw [BJ] at bc
     replace bd:=bd.mono br
     replace be:=be.mono br
     replace bf:=bf.mono br
     replace aw:=aw.mono br
     replace dc:=dc.mono br
     replace dd:=dd.mono br
     refine XT (Aa (Rk 0 1 ((tB 64 (decide (cL<((r_.lC.length:Nat):Int))))::(HC cL r_ an aH ao)) md cb fun qe fc=>?_))
     refine wf (XT (wC (decide (cL<((r_.lC.length:Nat):Int))) fc (fun e0=>?_) (fun e0=>?_)))
     ·
      rw [e0,XW] at bc
      refine wp_skip (XT (wp_block (Am (by kernel_rfl) ?_)))
      replace cb:=cb.drew
      refine Ao [] [(p,0),(q,0),(s,0)] [⟨UB af r_ ag f g ah ai,some 48⟩,⟨[.func m k l],some 123⟩,⟨[Wu a1 aj.2.1.length a3,Wu a2 aj.2.2.1.length a4,Wu ba aL.length bb],some 52⟩] ?_
      refine Dr [0,1,2] [2,1,0] ((tS 67 an aH.length ao)::(tS 66 ba aL.length bb)::(HC cL r_ an aH ao)) fc cb fun qf me=>?_
      obtain⟨hd,fg,n0,d5⟩:=cb.settle (i:=0) rfl
      replace b9:=b9.mono fg
      replace d5:Ah ⟨w,h,A6⟩ hd [(p,0),(q,0),(s,0)] [⟨UB af r_ ag f g ah ai,some 48⟩,⟨[.func m k l],some 123⟩,⟨[Wu a1 aj.2.1.length a3,Wu a2 aj.2.2.1.length a4,Wu ba aL.length bb],some 52⟩] [⟨an,aH.length,ao,3,1,bw,(bw:Wx).length⟩,⟨a1,aj.2.1.length,a3,3,1,cm,0⟩,⟨a2,aj.2.2.1.length,a4,3,1,cn,0⟩,⟨ba,aL.length,bb,29,1,cf,0⟩] (World.drew po):=d5
      have nx:A4 hd an ao aH:=⟨_,b9,n0,cb.rowCap (i:=0) rfl⟩
      obtain⟨dW,jY,bc⟩:=Av bc
      refine Dl 3 fun K hK=>?_
      refine wc [.c (Wu an aH.length ao)] me d5 (CK d7 d5.has aH nx jY) fun qq ex ru jg fh ih=>?_
      replace b9:=b9.mono fh
      replace dy:=dy.mono (XU fg fh)
      obtain⟨bi,bk,rfl,ny⟩:=jg
      refine⟨.one (.c (Wu bi dW.length bk)),rfl,fun pe (mf:Kn 74 [(p,0),(q,0),(s,0)] ((tS 68 bi dW.length bk)::(tS 67 an aH.length ao)::(tS 66 ba aL.length bb)::(HC cL r_ an aH ao)) pe)=>hK _ _ ih.plOk ?_⟩
      refine Dl 4 fun K hK=>?_
      refine wS 29 1 [Wu bi dW.length bk] mf ih fun g3 pf rv (mg:Kn 74 [(p,0),(q,0),(s,0)] ((tS 69 g3 1 1)::(tS 68 bi dW.length bk)::(tS 67 an aH.length ao)::(tS 66 ba aL.length bb)::(HC cL r_ an aH ao)) pf) fv=>?_
      have e6:Ag ex ([dW]:List (List Int)) ([.slice bi dW.length bk]:Wx):=⟨_,_,rfl,((Ad ny):rep ex (dW:List Int) _),rfl⟩
      refine hK _ _ fv.plOk ?_
      obtain⟨fE,iX,bc⟩:=Av bc
      obtain⟨f5,m5⟩:=Bb iX
      refine Dl 5 fun K hK=>?_
      refine AD 3 24 1 _ (fE.length) _ ([.slice bi dW.length bk]:Wx) mg fv rfl rfl (by decide) rfl (by rfl) (by kernel_rfl) (by rfl) (by rfl) (Ag.len e6) (fv.rowCell (i:=4) rfl) e6.one (by rw [f5]; simp <;> omega) (by rw [f5]; exact m5) (by decide) fun cu c0 i9 pg rx ke (mh:Kn 74 [(p,0),(q,0),(s,0)] ((tS 70 cu fE.length c0)::(tS 69 g3 1 1)::(tS 68 bi dW.length bk)::(tS 67 an aH.length ao)::(tS 66 ba aL.length bb)::(HC cL r_ an aH ao)) pg) fw=>?_
      have j5:Ag ex fE (cf++([.slice bi dW.length bk]:Wx)):=by rw [f5]; exact Ag.append dy e6
      obtain rfl:i9=0:=Nat.le_zero.1 ke
      refine hK _ _ fw.plOk ?_
      refine Dr [6] (dn 6) ((tP 71 2 2)::(tS 70 cu fE.length c0)::(HC cL r_ an aH ao)) mh fw fun ph mi=>?_
      refine Cq 7 rfl (by kernel_rfl) (by decide) (rfl) (by kernel_rfl) fun K hK=>?_
      refine EZ 2 2 (.c (Wu cu fE.length c0)) [Wu a1 aj.2.1.length a3,Wu a2 aj.2.2.1.length a4,Wu cu fE.length c0] mi fw fun ry mj ii=>hK _ _ ?_
      have mk:Kn 74 [(p,0),(q,0),(s,0)] (HC cL r_ an aH ao) ph:=mj.kp
      refine Em (by kernel_rfl) (Aa (Rk 0 2 [tI 63 (Wt (cL+1)),tI 62 ((r_.lC.length:Nat):Int),tS 5 an aH.length ao,tP 4 2 0] mk ii fun qh ml=>?_))
      refine wf ?_
      exact XY d7 ⟨Xc _,XY aH ⟨fE,Wt (cL+1),an,ao,bw,(bw:Wx).length,cu,c0,cf++([.slice bi dW.length bk]:Wx),_,_,rfl,ml.kp,ii.cutRw 4,XU br (XU fg fh),b9,j5,bc⟩⟩
     ·
      rw [e0,XV] at bc
      refine wp_exit ?_
      obtain rfl:=XZ bc
      exact XY an ⟨ao,bw,et,ba,bb,cf,_,_,rfl,fc.kp,cb,br,b9,dy⟩
   ·
    rintro _ rz ⟨g2,g7,gr,hb,b1,b6,gs,gp,da,rfl,mm,ij,hv,py,j4⟩
    replace dc:=dc.mono hv
    replace dd:=dd.mono hv
    refine XT (Aa (Rk 0 1 [tA 73 [Wu a1 aj.2.1.length a3,Wu a2 aj.2.2.1.length a4,Wu b1 bg.2.length b6],tP 4 2 0] mm ij fun pi mn=>?_))
    refine wl fun K hK=>?_
    refine EZ 2 0 (.agg [Wu a1 aj.2.1.length a3,Wu a2 aj.2.2.1.length a4,Wu b1 bg.2.length b6]) [Wu a1 aj.2.1.length a3,Wu a2 aj.2.2.1.length a4,Wu b1 bg.2.length b6] mn ij fun r0 mo nn=>hK _ _ ?_
    have mp:Kn 74 [(p,0),(q,0),(s,0)] [tP 4 2 0] pi:=mo.kp
    refine wf (wp_ret ?_)
    obtain rfl:=XZ H
    exact Vt (.one (.agg [Wu a1 aj.2.1.length a3,Wu a2 aj.2.2.1.length a4,Wu b1 bg.2.length b6])) [1,2,3] mp nn (by kernel_rfl) (by kernel_rfl) (by kernel_rfl) ⟨_,_,_,_,_,_,_,_,_,rfl,rfl,dc,dd,j4⟩
theorem FW (n:Nat) {h:Ae} {w:World} (hh:Dk h w) (r_:Af) {aP:Wx} (aW:rep h r_ aP) (e:HJ) {kX:Wx} (hx_e:rep h e kX) {r:Ap} (H:B7 n r_ e=some r) :
    Calls Tryz.prog 54 #[.agg aP.toArray,.agg kX.toArray] w (Dq (fun h v=>∃ cs,v=.agg cs.toArray∧rep h r cs) h w) :=
  (A9 n hh r_ aW e hx_e H).mono fun en w' ⟨v,h0,rs,he,hm,a0,c0,x0,a1,c1,x1,a2,c2,x2,hv,hrs,k0,k1,k2⟩=>by
    subst hv hrs
    have n0:=hm.rowCap (i:=0) rfl
    have n1:=hm.rowCap (i:=1) rfl
    have n2:=hm.rowCap (i:=2) rfl
    obtain⟨h1,l1,s0,hm⟩:=hm.settle (i:=0) rfl
    obtain⟨h2,l2,s1,hm⟩:=hm.settle (i:=1) rfl
    obtain⟨h3,l3,s2,hm⟩:=hm.settle (i:=2) rfl
    have hr:rep h3 r [.slice a0 r.tm.length c0,.slice a1 r.lE.length c1,.slice a2 r.lA.length c2] :=
      Ab (Ad ⟨x0,k0.mono (XU l1 (XU l2 l3)),s0.mono (XU l2 l3),n0⟩) (Ab (Ad ⟨x1,k1.mono (XU l1 (XU l2 l3)),s1.mono l3,n1⟩) (Ad ⟨x2,k2.mono (XU l1 (XU l2 l3)),s2,n2⟩))
    subst he
    exact KS (F:=⟨w,h,A6⟩) hm ⟨_,rfl,hr⟩
end Go.Proofs.YtokchpjijlebiaaGreat
