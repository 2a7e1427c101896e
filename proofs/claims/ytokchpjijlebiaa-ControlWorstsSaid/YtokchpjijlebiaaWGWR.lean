/- Each call computes its plain function. -/
import Derived.Test.YtokchpjijlebiaaProg
import Derived.Test.YtokchpjijlebiaaWGP0
set_option linter.all false
namespace Go.Proofs.Ytokchpjijlebiaa
open Go Go.RowKit
open Rep (rep)
open KRep (kv)
open VRep (rv)
set_option maxRecDepth 100000 in
set_option maxHeartbeats 4000000 in
theorem C4 (n:Nat) {h:Ae} {w:World} (hh:CU h w) (s:List Int) {a_s:Option Addr} {c_s:Nat} (hr_s:A8 h a_s c_s s) {r:List Int} (H:Bo n s=some r) :
  Calls Try.prog 87 #[.slice a_s s.length c_s] w (Da (fun h v=>∃ a c,v=.slice a r.length c∧A8 h a c r) h w):=by
 refine enter 8 [.c (.slice a_s s.length c_s)] Try.func87 rfl rfl rfl rfl fun t hk=>?_
 have hm:=Ah.begin h w hh
 unfold Bo at H
 refine XT (Aa (Rk 0 1 [tS 0 a_s s.length c_s] hk hm fun ao ac=>?_))
 refine wf (XT (XT (Aa (Rk 0 2 [tB 4 a_s.isNone,tS 0 a_s s.length c_s] ac hm fun aq k=>?_))))
 refine wf (wC (a_s.isNone) k (fun u=>?_) (fun u=>?_))
 ·
  obtain rfl:=A8.isNil hr_s (by decide) u
  replace H:some ([]:List Int)=some r:=by simpa [Jz] using H
  refine XT (Aa (Rk 0 1 [tS 2 none 0 0] k hm fun au af=>?_))
  refine wf (wp_ret ?_)
  obtain rfl:=XZ H
  exact rt (.one (.c (.slice none 0 0))) af hm ⟨_,_,rfl,A8.nil⟩
 ·
  refine wp_skip (XT (Aa (wl fun K hK=>?_)))
  refine wS 3 1 [] k hm fun g am av (aa:Kn 8 [] [tS 5 g 0 0,tB 4 a_s.isNone,tS 0 a_s s.length c_s] am) l=>?_
  have y:Ag h ([]:List Int) ([]:List Value):=Ag.nil
  refine hK _ _ ?_
  refine Rk 1 1 [tS 6 a_s s.length c_s,tS 5 g 0 0] aa l fun ap ab=>?_
  obtain⟨f,e,ak,_⟩:=id hr_s
  obtain⟨x7,ex7,H⟩:=Aw H
  obtain⟨p,ag⟩:=AU ex7
  refine wl fun K hK=>?_
  refine AE 0 8 s.length _ (x7.length) _ f ab l rfl rfl (by decide) rfl (by rfl) (by kernel_rfl) (by rfl) (by rfl) (Ag.len e) (ak.cell l.has e.one) e.one (by rw [p]; simp <;> omega) (by rw [p]; exact ag) (by decide) fun b d x al an z (ad:Kn 8 [] [tS 7 b x7.length d,tS 6 a_s s.length c_s,tS 5 g 0 0] al) m=>?_
  have j:Ag h x7 (([]:List Value)++f):=by rw [p]; exact Ag.append y e
  obtain rfl:x=0:=Nat.le_zero.1 z
  refine hK _ _ ?_
  refine Rk 3 1 [tS 2 b x7.length d] ad m fun ar ae=>?_
  refine wf (wp_ret ?_)
  obtain⟨q,ah,aj,o⟩:=m.settle (i:=0) rfl
  replace j:=j.mono ah
  replace o:Ah ⟨w,h,A4⟩ q [] [] [⟨b,x7.length,d,3,1,([]:List Value)++f,((([]:List Value)++f):List Value).length⟩] an:=o
  have ai:A8 q b d x7:=⟨_,j,aj,m.rowCap (i:=0) rfl⟩
  obtain rfl:=XZ H
  exact rt (.one (.c (.slice b x7.length d))) ae o ⟨_,_,rfl,ai⟩
set_option maxRecDepth 100000 in
set_option maxHeartbeats 4000000 in
theorem GI (n:Nat) {h:Ae} {w:World} (hh:CU h w) (s:List Bool) {a_s:Option Addr} {c_s:Nat} (hr_s:A8 h a_s c_s s) {r:List Bool} (H:DB n s=some r) :
  Calls Try.prog 88 #[.slice a_s s.length c_s] w (Da (fun h v=>∃ a c,v=.slice a r.length c∧A8 h a c r) h w):=by
 refine enter 8 [.c (.slice a_s s.length c_s)] Try.func88 rfl rfl rfl rfl fun t hk=>?_
 have hm:=Ah.begin h w hh
 unfold DB at H
 refine XT (Aa (Rk 0 1 [tS 0 a_s s.length c_s] hk hm fun ao ac=>?_))
 refine wf (XT (XT (Aa (Rk 0 2 [tB 4 a_s.isNone,tS 0 a_s s.length c_s] ac hm fun aq k=>?_))))
 refine wf (wC (a_s.isNone) k (fun u=>?_) (fun u=>?_))
 ·
  obtain rfl:=A8.isNil hr_s (by decide) u
  replace H:some ([]:List Bool)=some r:=by simpa [Jz] using H
  refine XT (Aa (Rk 0 1 [tS 2 none 0 0] k hm fun au af=>?_))
  refine wf (wp_ret ?_)
  obtain rfl:=XZ H
  exact rt (.one (.c (.slice none 0 0))) af hm ⟨_,_,rfl,A8.nil⟩
 ·
  refine wp_skip (XT (Aa (wl fun K hK=>?_)))
  refine wS 4 1 [] k hm fun g am av (aa:Kn 8 [] [tS 5 g 0 0,tB 4 a_s.isNone,tS 0 a_s s.length c_s] am) l=>?_
  have y:Ag h ([]:List Bool) ([]:List Value):=Ag.nil
  refine hK _ _ ?_
  refine Rk 1 1 [tS 6 a_s s.length c_s,tS 5 g 0 0] aa l fun ap ab=>?_
  obtain⟨f,e,ak,_⟩:=id hr_s
  obtain⟨x7,ex7,H⟩:=Aw H
  obtain⟨p,ag⟩:=AU ex7
  refine wl fun K hK=>?_
  refine AE 0 1 s.length _ (x7.length) _ f ab l rfl rfl (by decide) rfl (by rfl) (by kernel_rfl) (by rfl) (by rfl) (Ag.len e) (ak.cell l.has e.one) e.one (by rw [p]; simp <;> omega) (by rw [p]; exact ag) (by decide) fun b d x al an z (ad:Kn 8 [] [tS 7 b x7.length d,tS 6 a_s s.length c_s,tS 5 g 0 0] al) m=>?_
  have j:Ag h x7 (([]:List Value)++f):=by rw [p]; exact Ag.append y e
  obtain rfl:x=0:=Nat.le_zero.1 z
  refine hK _ _ ?_
  refine Rk 3 1 [tS 2 b x7.length d] ad m fun ar ae=>?_
  refine wf (wp_ret ?_)
  obtain⟨q,ah,aj,o⟩:=m.settle (i:=0) rfl
  replace j:=j.mono ah
  replace o:Ah ⟨w,h,A4⟩ q [] [] [⟨b,x7.length,d,4,1,([]:List Value)++f,((([]:List Value)++f):List Value).length⟩] an:=o
  have ai:A8 q b d x7:=⟨_,j,aj,m.rowCap (i:=0) rfl⟩
  obtain rfl:=XZ H
  exact rt (.one (.c (.slice b x7.length d))) ae o ⟨_,_,rfl,ai⟩
set_option maxRecDepth 100000 in
set_option maxHeartbeats 4000000 in
theorem Iw (n:Nat) {h:Ae} {w:World} (hh:CU h w) (x:List Int) {a_x:Option Addr} {c_x:Nat} (hr_x:A8 h a_x c_x x) {r:Int} (H:EL n x=some r) :
  Calls Try.prog 89 #[.slice a_x x.length c_x] w (Da (fun h v=>v=.int .i64 r) h w):=by
 refine enter 25 [.c (.slice a_x x.length c_x)] Try.func89 rfl rfl rfl rfl fun t hk=>?_
 have hm:=Ah.begin h w hh
 unfold EL at H
 refine XT (Aa (Rk 0 1 [tS 0 a_x x.length c_x] hk hm fun bc al=>?_))
 refine wf (XT (XT (Aa (Rk 0 3 [tB 7 (decide (((x.length:Nat):Int)<1)),tS 0 a_x x.length c_x] al hm fun bf ad=>?_))))
 refine wf (wC (decide (((x.length:Nat):Int)<1)) ad (fun m=>?_) (fun m=>?_))
 ·
  rw [m,XW] at H
  cases H
 ·
  rw [m,XV] at H
  refine wp_skip (XT (Aa (Rk 0 1 [tS 9 a_x x.length c_x,tS 0 a_x x.length c_x] ad hm fun bk ax=>?_)))
  obtain⟨x10,ex10,H⟩:=Aw H
  obtain⟨ay,a0,a4⟩:=Ai ex10
  obtain⟨d,e,a9,ag,a2,ai⟩:=hr_x.get (by decide) a4
  obtain rfl:=a2
  have s:=hm.addPlc (b:=d) (o:=e+(0:Int).toNat*1) (cs:=[.int .i64 x10]) (fun j c hj=>ai j _ (Ak hj)) rfl (by kernel_rfl) (by kernel_rfl)
  refine Bl 1 (0) rfl rfl (rfl) rfl (by decide) ax (by rfl) (by rfl) (by rfl) ag (by rfl) ay a0 (by kernel_rfl) fun a7 (ak:Kn 25 [(d,e+(0:Int).toNat*1)] [tP 10 0 0,tS 9 a_x x.length c_x,tS 0 a_x x.length c_x] a7)=>?_
  refine Rk 2 2 [tI 3 x10,tS 0 a_x x.length c_x] ak s fun bd am=>?_
  refine wf (XT (XT (Aa (Rk 0 1 [tI 4 1,tI 3 x10,tS 0 a_x x.length c_x] am s fun be an=>?_))))
  refine wf ?_
  obtain⟨g,ac,H⟩:=Aw H
  refine Az (fun a' w'=>∃ (z:Array Value)(i:Ae),a' = ⟨z,[]⟩∧Kn 25 [(d,e+(0:Int).toNat*1)] [tI 3 g] z∧Ah ⟨w,h,A4⟩ i [(d,e+(0:Int).toNat*1)] [⟨[.int .i64 x10],none⟩] [] w'∧Ae.le h i) ?_ ?_
  ·
   refine wp_block ?_
   refine Ar (fun a6 a' w'=>∃ (x_v10:Int)(x_v11:Int)(aa:Array Value)(k:Ae),a' = ⟨aa,[]⟩∧Kn 25 [(d,e+(0:Int).toNat*1)] [tI 4 x_v10,tI 3 x_v11,tS 0 a_x x.length c_x] aa∧Ah ⟨w,h,A4⟩ k [(d,e+(0:Int).toNat*1)] [⟨[.int .i64 x10],none⟩] [] w'∧Ae.le h k∧Cp a6 x x_v10 x_v11=some g) n ?_ ?_
   ·
    exact XY 1 ⟨x10,_,_,rfl,an.kp,s,Ae.le_refl _,ac⟩
   ·
    rintro y _ bm ⟨x_v10,x_v11,aa,k,rfl,ao,f,q,a⟩
    clear ac
    obtain _ | y:=y
    ·
     rw [Cp] at a; cases a
    rw [Cp] at a
    replace hr_x:=hr_x.mono q
    refine XT (XT (Aa (Rk 0 4 [tB 15 (decide (x_v10<((x.length:Nat):Int))),tI 4 x_v10,tI 3 x_v11,tS 0 a_x x.length c_x] ao f fun bg p=>?_)))
    refine wf (wC (decide (x_v10<((x.length:Nat):Int))) p (fun l=>?_) (fun l=>?_))
    ·
     rw [l,XW] at a
     refine wp_skip (XT (wp_block (Aa (Rk 0 3 [tI 20 x_v10,tS 19 a_x x.length c_x,tI 18 x_v11,tI 4 x_v10,tS 0 a_x x.length c_x] p f fun bh ap=>?_))))
     obtain⟨x21,ex21,a⟩:=Aw a
     obtain⟨az,a1,a5⟩:=Ai ex21
     obtain⟨ab,af,ba,ah,a3,aj⟩:=hr_x.get (by decide) a5
     obtain rfl:=a3
     have u:=f.addPlc (b:=ab) (o:=af+(x_v10:Int).toNat*1) (cs:=[.int .i64 x21]) (fun j c hj=>aj j _ (Ak hj)) rfl (by kernel_rfl) (by kernel_rfl)
     refine Bl 3 (x_v10) rfl rfl (rfl) rfl (by decide) ap (by rfl) (by rfl) (by rfl) ah (by rfl) az a1 (by kernel_rfl) fun a8 (aq:Kn 25 [(d,e+(0:Int).toNat*1),(ab,af+(x_v10:Int).toNat*1)] [tP 21 1 0,tI 20 x_v10,tS 19 a_x x.length c_x,tI 18 x_v11,tI 4 x_v10,tS 0 a_x x.length c_x] a8)=>?_
     refine Rk 4 3 [tI 3 (if x21>x_v11 then x21 else x_v11),tI 4 x_v10,tS 0 a_x x.length c_x] aq u fun bi ar=>?_
     refine wf (Aa (Rk 0 3 [tI 4 (IntKind.i64.wrap (x_v10+1)),tI 3 (if x21>x_v11 then x21 else x_v11),tS 0 a_x x.length c_x] ar u fun bj au=>?_))
     refine wf ?_
     exact XY y ⟨Nat.lt_succ_self _,XY (IntKind.i64.wrap (x_v10+1)) ⟨(if x21>x_v11 then x21 else x_v11),_,_,rfl,(au.keep [4,3,0] (by rfl)).cut 1 (by kernel_rfl),u.cutPl 1 (by kernel_rfl),q,a⟩⟩
    ·
     rw [l,XV] at a
     refine wp_exit ?_
     obtain rfl:=XZ a
     exact XY _ ⟨_,rfl,p.kp,f,q⟩
  ·
   rintro _ bn ⟨z,i,rfl,av,ae,bb⟩
   refine XT (Aa (Rk 0 2 [tI 2 g] av ae fun bl aw=>?_))
   refine wf (wp_ret ?_)
   obtain rfl:=XZ H
   exact rt (.one (.c (.int .i64 g))) aw ae rfl
set_option maxRecDepth 100000 in
set_option maxHeartbeats 4000000 in
theorem Ix (n:Nat) {h:Ae} {w:World} (hh:CU h w) (x:List Int) {a_x:Option Addr} {c_x:Nat} (hr_x:A8 h a_x c_x x) {r:Int} (H:DC n x=some r) :
  Calls Try.prog 90 #[.slice a_x x.length c_x] w (Da (fun h v=>v=.int .i64 r) h w):=by
 refine enter 25 [.c (.slice a_x x.length c_x)] Try.func90 rfl rfl rfl rfl fun t hk=>?_
 have hm:=Ah.begin h w hh
 unfold DC at H
 refine XT (Aa (Rk 0 1 [tS 0 a_x x.length c_x] hk hm fun bc al=>?_))
 refine wf (XT (XT (Aa (Rk 0 3 [tB 7 (decide (((x.length:Nat):Int)<1)),tS 0 a_x x.length c_x] al hm fun bf ad=>?_))))
 refine wf (wC (decide (((x.length:Nat):Int)<1)) ad (fun m=>?_) (fun m=>?_))
 ·
  rw [m,XW] at H
  cases H
 ·
  rw [m,XV] at H
  refine wp_skip (XT (Aa (Rk 0 1 [tS 9 a_x x.length c_x,tS 0 a_x x.length c_x] ad hm fun bk ax=>?_)))
  obtain⟨x10,ex10,H⟩:=Aw H
  obtain⟨ay,a0,a4⟩:=Ai ex10
  obtain⟨d,e,a9,ag,a2,ai⟩:=hr_x.get (by decide) a4
  obtain rfl:=a2
  have s:=hm.addPlc (b:=d) (o:=e+(0:Int).toNat*1) (cs:=[.int .i64 x10]) (fun j c hj=>ai j _ (Ak hj)) rfl (by kernel_rfl) (by kernel_rfl)
  refine Bl 1 (0) rfl rfl (rfl) rfl (by decide) ax (by rfl) (by rfl) (by rfl) ag (by rfl) ay a0 (by kernel_rfl) fun a7 (ak:Kn 25 [(d,e+(0:Int).toNat*1)] [tP 10 0 0,tS 9 a_x x.length c_x,tS 0 a_x x.length c_x] a7)=>?_
  refine Rk 2 2 [tI 3 x10,tS 0 a_x x.length c_x] ak s fun bd am=>?_
  refine wf (XT (XT (Aa (Rk 0 1 [tI 4 1,tI 3 x10,tS 0 a_x x.length c_x] am s fun be an=>?_))))
  refine wf ?_
  obtain⟨g,ac,H⟩:=Aw H
  refine Az (fun a' w'=>∃ (z:Array Value)(i:Ae),a' = ⟨z,[]⟩∧Kn 25 [(d,e+(0:Int).toNat*1)] [tI 3 g] z∧Ah ⟨w,h,A4⟩ i [(d,e+(0:Int).toNat*1)] [⟨[.int .i64 x10],none⟩] [] w'∧Ae.le h i) ?_ ?_
  ·
   refine wp_block ?_
   refine Ar (fun a6 a' w'=>∃ (x_v10:Int)(x_v11:Int)(aa:Array Value)(k:Ae),a' = ⟨aa,[]⟩∧Kn 25 [(d,e+(0:Int).toNat*1)] [tI 4 x_v10,tI 3 x_v11,tS 0 a_x x.length c_x] aa∧Ah ⟨w,h,A4⟩ k [(d,e+(0:Int).toNat*1)] [⟨[.int .i64 x10],none⟩] [] w'∧Ae.le h k∧BM a6 x x_v10 x_v11=some g) n ?_ ?_
   ·
    exact XY 1 ⟨x10,_,_,rfl,an.kp,s,Ae.le_refl _,ac⟩
   ·
    rintro y _ bm ⟨x_v10,x_v11,aa,k,rfl,ao,f,q,a⟩
    clear ac
    obtain _ | y:=y
    ·
     rw [BM] at a; cases a
    rw [BM] at a
    replace hr_x:=hr_x.mono q
    refine XT (XT (Aa (Rk 0 4 [tB 15 (decide (x_v10<((x.length:Nat):Int))),tI 4 x_v10,tI 3 x_v11,tS 0 a_x x.length c_x] ao f fun bg p=>?_)))
    refine wf (wC (decide (x_v10<((x.length:Nat):Int))) p (fun l=>?_) (fun l=>?_))
    ·
     rw [l,XW] at a
     refine wp_skip (XT (wp_block (Aa (Rk 0 3 [tI 20 x_v10,tS 19 a_x x.length c_x,tI 18 x_v11,tI 4 x_v10,tS 0 a_x x.length c_x] p f fun bh ap=>?_))))
     obtain⟨x21,ex21,a⟩:=Aw a
     obtain⟨az,a1,a5⟩:=Ai ex21
     obtain⟨ab,af,ba,ah,a3,aj⟩:=hr_x.get (by decide) a5
     obtain rfl:=a3
     have u:=f.addPlc (b:=ab) (o:=af+(x_v10:Int).toNat*1) (cs:=[.int .i64 x21]) (fun j c hj=>aj j _ (Ak hj)) rfl (by kernel_rfl) (by kernel_rfl)
     refine Bl 3 (x_v10) rfl rfl (rfl) rfl (by decide) ap (by rfl) (by rfl) (by rfl) ah (by rfl) az a1 (by kernel_rfl) fun a8 (aq:Kn 25 [(d,e+(0:Int).toNat*1),(ab,af+(x_v10:Int).toNat*1)] [tP 21 1 0,tI 20 x_v10,tS 19 a_x x.length c_x,tI 18 x_v11,tI 4 x_v10,tS 0 a_x x.length c_x] a8)=>?_
     refine Rk 4 3 [tI 3 (if x21<x_v11 then x21 else x_v11),tI 4 x_v10,tS 0 a_x x.length c_x] aq u fun bi ar=>?_
     refine wf (Aa (Rk 0 3 [tI 4 (IntKind.i64.wrap (x_v10+1)),tI 3 (if x21<x_v11 then x21 else x_v11),tS 0 a_x x.length c_x] ar u fun bj au=>?_))
     refine wf ?_
     exact XY y ⟨Nat.lt_succ_self _,XY (IntKind.i64.wrap (x_v10+1)) ⟨(if x21<x_v11 then x21 else x_v11),_,_,rfl,(au.keep [4,3,0] (by rfl)).cut 1 (by kernel_rfl),u.cutPl 1 (by kernel_rfl),q,a⟩⟩
    ·
     rw [l,XV] at a
     refine wp_exit ?_
     obtain rfl:=XZ a
     exact XY _ ⟨_,rfl,p.kp,f,q⟩
  ·
   rintro _ bn ⟨z,i,rfl,av,ae,bb⟩
   refine XT (Aa (Rk 0 2 [tI 2 g] av ae fun bl aw=>?_))
   refine wf (wp_ret ?_)
   obtain rfl:=XZ H
   exact rt (.one (.c (.int .i64 g))) aw ae rfl
set_option maxRecDepth 100000 in
set_option maxHeartbeats 4000000 in
theorem KR (n:Nat) {h:Ae} {w:World} (hh:CU h w) (l:List Int) {a_l:Option Addr} {c_l:Nat} (hr_l:A8 h a_l c_l l) {r:Int} (H:G6 n l=some r) :
  Calls Try.prog 57 #[.slice a_l l.length c_l] w (Da (fun h v=>v=.int .i64 r) h w):=by
 refine enter 5 [.c (.slice a_l l.length c_l)] Try.func57 rfl rfl rfl rfl fun t hk=>?_
 have hm:=Ah.begin h w hh
 unfold G6 at H
 refine XT (Aa (Rk 0 1 [tS 0 a_l l.length c_l] hk hm fun m f=>?_))
 refine wf (XT (Aa (Rk 0 1 [tS 3 a_l l.length c_l] f hm fun p g=>?_)))
 obtain⟨x4,ex4,H⟩:=Aw H
 refine wl fun K hK=>?_
 refine wc [.c (.slice a_l l.length c_l)] g hm (Iw n hm.has l hr_l ex4) fun q j s b k a=>?_
 obtain rfl:=b
 refine⟨.one (.c (.int .i64 x4)),rfl,fun i (d:Kn 5 [] [tI 4 x4,tS 3 a_l l.length c_l] i)=>hK _ _ ?_⟩
 refine Rk 2 1 [tI 2 x4] d a fun o e=>?_
 refine wf (wp_ret ?_)
 obtain rfl:=XZ H
 exact rt (.one (.c (.int .i64 x4))) e a rfl
set_option maxRecDepth 100000 in
set_option maxHeartbeats 4000000 in
theorem ED (n:Nat) {h:Ae} {w:World} (hh:CU h w) (l:List Int) {a_l:Option Addr} {c_l:Nat} (hr_l:A8 h a_l c_l l) {r:Int} (H:Cu n l=some r) :
  Calls Try.prog 59 #[.slice a_l l.length c_l] w (Da (fun h v=>v=.int .i64 r) h w):=by
 refine enter 5 [.c (.slice a_l l.length c_l)] Try.func59 rfl rfl rfl rfl fun t hk=>?_
 have hm:=Ah.begin h w hh
 unfold Cu at H
 refine XT (Aa (Rk 0 1 [tS 0 a_l l.length c_l] hk hm fun m f=>?_))
 refine wf (XT (Aa (Rk 0 1 [tS 3 a_l l.length c_l] f hm fun p g=>?_)))
 obtain⟨x4,ex4,H⟩:=Aw H
 refine wl fun K hK=>?_
 refine wc [.c (.slice a_l l.length c_l)] g hm (Ix n hm.has l hr_l ex4) fun q j s b k a=>?_
 obtain rfl:=b
 refine⟨.one (.c (.int .i64 x4)),rfl,fun i (d:Kn 5 [] [tI 4 x4,tS 3 a_l l.length c_l] i)=>hK _ _ ?_⟩
 refine Rk 2 1 [tI 2 x4] d a fun o e=>?_
 refine wf (wp_ret ?_)
 obtain rfl:=XZ H
 exact rt (.one (.c (.int .i64 x4))) e a rfl
abbrev Kg (x15:Rg):List SC:=[.int .i64 x15.lo,.int .i64 x15.hi]
abbrev Kh (x30:CG):List SC:=[.int .i64 x30.tm.lo,.int .i64 x30.tm.hi]
abbrev Cl (r_:Af):List SC:=[.int .i64 r_.turn.lo,.int .i64 r_.turn.hi]
abbrev Ki:List SC:=[.slice none 0 0,.slice none 0 0,.slice none 0 0]
abbrev FJ (x30:CG):List SC:=[.int .i64 x30.stop,.int .i64 x30.tm.lo,.int .i64 x30.tm.hi]
abbrev A2 (p q s ac ad:Nat) (x_v24:Int) (ae:Nat):Be:=[(p,0),(q,0),(s,0),(ac,ad+(x_v24:Int).toNat*3),(ae,0)]
abbrev Sj (aa:Option Addr) (x_v21:List Int) (ab:Nat) (y:Option Addr) (x_v22:List Int) (z:Nat) (u:Option Addr) (x_v23:List (List Int)) (x:Nat):List SC:=[.slice aa x_v21.length ab,.slice y x_v22.length z,.slice u x_v23.length x]
abbrev Di (af:Option Addr) (r_:Af) (ag:Nat) (f:Option Addr) (g:Nat) (ah:Option Addr) (ai:Nat):List SC:=[.slice af r_.legs.length ag,.int .i64 r_.turn.lo,.int .i64 r_.turn.hi,.slice f r_.buses.length g,.slice ah r_.spares.length ai,.int .i64 r_.unit,.int .i64 r_.gap,.int .i64 r_.fr,.int .i64 r_.to_]
abbrev C8 (af:Option Addr) (r_:Af) (ag:Nat) (f:Option Addr) (g:Nat) (ah:Option Addr) (ai:Nat) (m:Fn) (k l:Array Value) (aa:Option Addr) (x_v21:List Int) (ab:Nat) (y:Option Addr) (x_v22:List Int) (z:Nat) (u:Option Addr) (x_v23:List (List Int)) (x:Nat) (x30:CG):List CM:=[⟨Di af r_ ag f g ah ai,some 43⟩,⟨[.func m k l],some 132⟩,⟨Sj aa x_v21 ab y x_v22 z u x_v23 x,some 76⟩,⟨FJ x30,none⟩,⟨FJ x30,some 96⟩]
abbrev KS (a:Option Addr) (x_v20:List Int) (d:Nat) (am:List Value) (ax:Nat) (aa:Option Addr) (x_v21:List Int) (ab:Nat) (al:List Value) (y:Option Addr) (x_v22:List Int) (z:Nat) (ap:List Value) (u:Option Addr) (x_v23:List (List Int)) (x:Nat) (aq:List Value):List Ge:=[⟨a,x_v20.length,d,3,1,am,ax⟩,⟨aa,x_v21.length,ab,3,1,al,0⟩,⟨y,x_v22.length,z,3,1,ap,0⟩,⟨u,x_v23.length,x,31,1,aq,0⟩,⟨none,0,0,3,1,[],0⟩,⟨none,0,0,3,1,[],0⟩,⟨none,0,0,31,1,[],0⟩]
abbrev Ca (x_v24:Int) (r_:Af) (f:Option Addr) (g:Nat) (a:Option Addr) (x_v20:List Int) (d:Nat):TM:=[tI 28 x_v24,tI 27 ((r_.buses.length:Nat):Int),tS 26 f r_.buses.length g,tS 5 a x_v20.length d,tP 4 2 0,tP 3 1 0,tP 2 0 0]
abbrev Ea (a:Option Addr) (x_v20:List Int) (d:Nat) (u:Option Addr) (x_v23:List (List Int)) (x:Nat) (y:Option Addr) (x_v22:List Int) (z:Nat) (x30:CG) (m:Fn) (k l:Array Value) (aa:Option Addr) (x_v21:List Int) (ab:Nat) (x_v24:Int) (r_:Af) (f:Option Addr) (g:Nat):TM:=(tS 52 a x_v20.length d)::(tS 51 u x_v23.length x)::(tP 45 0 1)::(tP 43 1 0)::(tS 42 y x_v22.length z)::(tA 37 (Kh x30))::(35,.one (.c (.func m k l)))::(tS 33 aa x_v21.length ab)::(Ca x_v24 r_ f g a x_v20 d)
abbrev Ie (r_:Af) (m:Fn) (k l:Array Value) (au:Option Addr) (x40:List Int) (av:Nat) (a:Option Addr) (x_v20:List Int) (d:Nat) (u:Option Addr) (x_v23:List (List Int)) (x:Nat) (y:Option Addr) (x_v22:List Int) (z:Nat) (x_v24:Int) (f:Option Addr) (g:Nat):TM:=(tA 46 (Cl r_))::(44,.one (.c (.func m k l)))::(tP 56 2 0)::(tS 40 au x40.length av)::(tS 52 a x_v20.length d)::(tS 51 u x_v23.length x)::(tS 42 y x_v22.length z)::(Ca x_v24 r_ f g a x_v20 d)
abbrev Dn (y:Option Addr) (x_v22:List Int) (z:Nat) (aa:Option Addr) (x_v21:List Int) (ab:Nat) (x_v24:Int) (r_:Af) (f:Option Addr) (g:Nat) (a:Option Addr) (x_v20:List Int) (d:Nat):TM:=(tS 42 y x_v22.length z)::(tS 33 aa x_v21.length ab)::(Ca x_v24 r_ f g a x_v20 d)
abbrev J2 (x_v11:Int) (r_:Af) (af:Option Addr) (ag:Nat) (ay:Option Addr) (x_v10:List Int) (az:Nat):TM:=[tI 13 x_v11,tI 12 ((r_.legs.length:Nat):Int),tS 11 af r_.legs.length ag,tS 5 ay x_v10.length az,tP 4 2 0,tP 3 1 0,tP 2 0 0]
abbrev Mq (x15:Rg) (m:Fn) (k l:Array Value) (ay:Option Addr) (x_v10:List Int) (az:Nat) (x_v11:Int) (r_:Af) (af:Option Addr) (ag:Nat):TM:=[tA 20 (Kg x15),(19,.one (.c (.func m k l))),tS 17 ay x_v10.length az,tI 13 x_v11,tI 12 ((r_.legs.length:Nat):Int),tS 11 af r_.legs.length ag,tP 4 2 0,tP 3 1 0,tP 2 0 0]
abbrev GY (x_v32:Int) (r_:Af) (an:Option Addr) (x_v30:List Int) (ao:Nat):TM:=[tI 63 x_v32,tI 62 ((r_.spares.length:Nat):Int),tS 5 an x_v30.length ao,tP 4 2 0]
set_option maxRecDepth 100000 in
set_option maxHeartbeats 4000000 in
theorem A6 (n:Nat) {h:Ae} {w:World} (hh:CU h w) (r_:Af) {cs_r_:List Value} (hx_r_:rep h r_ cs_r_) (e:He) {cs_e:List Value} (hx_e:rep h e cs_e) {r:Ay} (H:Bs n r_ e=some r) :
  Calls Try.prog 67 #[.agg cs_r_.toArray,.agg cs_e.toArray] w (Tc (fun h v rs=>∃ (gw:Option Addr)(g5:Nat)(iz:List Value)(af:Option Addr)(g6:Nat)(i0:List Value)(gx:Option Addr)(ag:Nat)(i1:List Value),v=.agg #[.slice gw r.tm.length g5,.slice af r.turns.length g6,.slice gx r.legs.length ag]∧rs=[⟨gw,r.tm.length,g5,3,1,iz,0⟩,⟨af,r.turns.length,g6,3,1,i0,0⟩,⟨gx,r.legs.length,ag,31,1,i1,0⟩]∧Ag h r.tm iz∧Ag h r.turns i0∧Ag h r.legs i1) h w):=by
 obtain⟨_,_,rfl,⟨af,ag,rfl,bd⟩,⟨_,_,rfl,⟨_,_,rfl,rfl,rfl⟩,⟨_,_,rfl,⟨f,g,rfl,be⟩,⟨_,_,rfl,⟨ah,ai,rfl,bf⟩,⟨_,_,rfl,rfl,⟨_,_,rfl,rfl,⟨_,_,rfl,rfl,rfl⟩⟩⟩⟩⟩⟩⟩:=hx_r_
 obtain⟨m,k,l,rfl,aw⟩:=hx_e
 refine enter 74 [.agg (Di af r_ ag f g ah ai),.agg [.func m k l]] Try.func67 rfl rfl rfl rfl fun t hk=>?_
 have hm:=Ah.begin h w hh
 unfold Bs at H
 refine XT (Aa (wl fun K hK=>?_))
 refine wb (.agg (Di af r_ ag f g ah ai)) hk hm fun p n9 qt (kk:Kn 74 [(p,0)] [tP 2 0 0,tA 0 (Di af r_ ag f g ah ai),tA 1 [.func m k l]] n9) ng=>hK _ _ ?_
 refine wl fun K hK=>?_
 refine wb (.agg [.func m k l]) kk ng fun q ob qw (ks:Kn 74 [(p,0),(q,0)] [tP 3 1 0,tP 2 0 0,tA 0 (Di af r_ ag f g ah ai),tA 1 [.func m k l]] ob) nk=>hK _ _ ?_
 refine wl fun K hK=>?_
 refine wa Ki ks nk fun s ix pn (ky:Kn 74 [(p,0),(q,0),(s,0)] [tP 4 2 0,tP 3 1 0,tP 2 0 0,tA 0 (Di af r_ ag f g ah ai),tA 1 [.func m k l]] ix) fn=>hK _ _ ?_
 have k3:Kn 74 [(p,0),(q,0),(s,0)] [tP 4 2 0,tP 3 1 0,tP 2 0 0] ix:=ky.kp
 refine wf (XT (Aa (Rk 0 1 [tS 5 none 0 0,tP 4 2 0,tP 3 1 0,tP 2 0 0] k3 fn fun p7 k9=>?_)))
 refine wf (XT (XT (Aa (Rk 0 4 [tI 13 0,tI 12 ((r_.legs.length:Nat):Int),tS 11 af r_.legs.length ag,tS 5 none 0 0,tP 4 2 0,tP 3 1 0,tP 2 0 0] k9 fn fun p8 lc=>?_))))
 refine wf ?_
 have nl:Ah ⟨w,h,A4⟩ h [(p,0),(q,0),(s,0)] [⟨Di af r_ ag f g ah ai,some 43⟩,⟨[.func m k l],some 132⟩,⟨Ki,some 76⟩] [⟨none,0,0,3,1,[],0⟩] pn:=fn.nilRow 3 1
 have jw:Ag h ([]:List Int) []:=Ag.nil
 obtain⟨bn,g9,H⟩:=Aw H
 refine Az (fun a' w'=>∃ (bo:Option Addr)(bq:Nat)(ce:List Value)(gn:Array Value)(a9:Ae),a' = ⟨gn,[]⟩∧Kn 74 [(p,0),(q,0),(s,0)] [tS 5 bo bn.length bq,tP 4 2 0,tP 3 1 0,tP 2 0 0] gn∧Ah ⟨w,h,A4⟩ a9 [(p,0),(q,0),(s,0)] [⟨Di af r_ ag f g ah ai,some 43⟩,⟨[.func m k l],some 132⟩,⟨Ki,some 76⟩] [⟨bo,bn.length,bq,3,1,ce,0⟩] w'∧Ae.le h a9∧Ag a9 bn ce) ?_ ?_
 ·
  refine wp_block ?_
  refine Ar (fun n6 a' w'=>∃ (x_v10:List Int)(x_v11:Int)(ay:Option Addr)(az:Nat)(co:List Value)(go:Array Value)(c9:Ae),a' = ⟨go,[]⟩∧Kn 74 [(p,0),(q,0),(s,0)] (J2 x_v11 r_ af ag ay x_v10 az) go∧Ah ⟨w,h,A4⟩ c9 [(p,0),(q,0),(s,0)] [⟨Di af r_ ag f g ah ai,some 43⟩,⟨[.func m k l],some 132⟩,⟨Ki,some 76⟩] [⟨ay,x_v10.length,az,3,1,co,0⟩] w'∧Ae.le h c9∧Ag c9 x_v10 co∧B3 n6 r_ e x_v10 x_v11=some bn) n ?_ ?_
  ·
   exact XY ([]:List Int) ⟨0,none,0,[],_,_,rfl,lc.kp,nl,Ae.le_refl _,jw,g9⟩
  ·
   rintro f9 _ rr ⟨x_v10,x_v11,ay,az,co,go,c9,rfl,mb,fu,cl,dx,a6⟩
   clear g9
   obtain _ | f9:=f9
   ·
    rw [B3] at a6; cases a6
   rw [B3] at a6
   replace bd:=bd.mono cl
   replace be:=be.mono cl
   replace bf:=bf.mono cl
   replace aw:=aw.mono cl
   refine XT (Aa (Rk 0 1 ((tB 14 (decide (x_v11<((r_.legs.length:Nat):Int))))::(J2 x_v11 r_ af ag ay x_v10 az)) mb fu fun qg fd=>?_))
   refine wf (XT (wC (decide (x_v11<((r_.legs.length:Nat):Int))) fd (fun e1=>?_) (fun e1=>?_)))
   ·
    rw [e1,XW] at a6
    refine wp_skip (XT (wp_block (XT (Aa ?_))))
    obtain⟨x15,ex15,a6⟩:=Aw a6
    obtain⟨ns,nu,n4⟩:=Ai ex15
    obtain⟨b2,cc,pq,jj,n2,j6⟩:=bd.get (by decide) n4
    obtain⟨_,_,rfl,rfl,rfl⟩:=n2
    have ik:=fu.addPlc (b:=b2) (o:=cc+(x_v11:Int).toNat*2) (cs:=(Kg x15)) (fun j c hj=>j6 j _ (Ak hj)) rfl (by kernel_rfl) (by kernel_rfl)
    refine Bl 0 (x_v11) rfl rfl (rfl) rfl (by decide) fd (by rfl) (by rfl) (by rfl) jj (by rfl) ns nu (by kernel_rfl) fun pj (mq:Kn 74 [(p,0),(q,0),(s,0),(b2,cc+(x_v11:Int).toNat*2)] ((tP 15 3 0)::(tB 14 (decide (x_v11<((r_.legs.length:Nat):Int))))::(J2 x_v11 r_ af ag ay x_v10 az)) pj)=>?_
    refine Rk 1 1 ((tA 16 (Kg x15))::(J2 x_v11 r_ af ag ay x_v10 az)) mq ik fun qi mr=>?_
    refine wl fun K hK=>?_
    refine wa [.int .i64 0,.int .i64 0] mr ik fun cv iy r1 (ms:Kn 74 [(p,0),(q,0),(s,0),(b2,cc+(x_v11:Int).toNat*2),(cv,0)] ((tP 7 4 0)::(tA 16 (Kg x15))::(J2 x_v11 r_ af ag ay x_v10 az)) iy) np=>hK _ _ ?_
    refine wl fun K hK=>?_
    refine EY 4 0 (.agg (Kg x15)) (Kg x15) ms np fun r2 mt fx=>hK _ _ ?_
    have mu:Kn 74 [(p,0),(q,0),(s,0),(b2,cc+(x_v11:Int).toNat*2),(cv,0)] ((tP 7 4 0)::(J2 x_v11 r_ af ag ay x_v10 az)) iy:=mt.kp
    refine wf (Aa (Rk 0 4 (Mq x15 m k l ay x_v10 az x_v11 r_ af ag) mu fx fun qj mv=>?_))
    obtain⟨x21,ex21,a6⟩:=Aw a6
    refine wl fun K hK=>?_
    refine Dq (.func m k l) [.agg (Kg x15)] _ mv fx rfl rfl (by decide) (by rfl) (by rfl) rfl (aw _ _ (Ae.le_refl _) fx.has x15 _ ((Ab Ac Ac):rep c9 x15 _) _ ex21) fun qr ey r3 jh hw nq=>?_
    replace dx:=dx.mono hw
    obtain rfl:=jh
    refine⟨.one (.c (.int .i64 x21)),rfl,fun pk (mw:Kn 74 [(p,0),(q,0),(s,0),(b2,cc+(x_v11:Int).toNat*2),(cv,0)] ((tI 21 x21)::(Mq x15 m k l ay x_v10 az x_v11 r_ af ag)) pk)=>hK _ _ ?_⟩
    refine wl fun K hK=>?_
    refine wS 3 1 [.int .i64 x21] mw nq fun g4 pl r4 (mx:Kn 74 [(p,0),(q,0),(s,0),(b2,cc+(x_v11:Int).toNat*2),(cv,0)] ((tS 22 g4 1 1)::(tI 21 x21)::(Mq x15 m k l ay x_v10 az x_v11 r_ af ag)) pl) il=>?_
    have e7:Ag ey ([x21]:List Int) ([.int .i64 x21]:List Value):=⟨_,_,rfl,(Ac:rep ey (x21:Int) _),rfl⟩
    refine hK _ _ ?_
    obtain⟨x23,ex23,a6⟩:=Aw a6
    obtain⟨fy,my⟩:=AU ex23
    refine wl fun K hK=>?_
    refine AE 0 8 1 _ (x23.length) _ ([.int .i64 x21]:List Value) mx il rfl rfl (by decide) rfl (by rfl) (by kernel_rfl) (by rfl) (by rfl) (Ag.len e7) (il.rowCell (i:=1) rfl) e7.one (by rw [fy]; simp <;> omega) (by rw [fy]; exact my) (by decide) fun dp dr i2 n8 qs j7 (kf:Kn 74 [(p,0),(q,0),(s,0),(b2,cc+(x_v11:Int).toNat*2),(cv,0)] ((tS 23 dp x23.length dr)::(tS 22 g4 1 1)::(tI 21 x21)::(Mq x15 m k l ay x_v10 az x_v11 r_ af ag)) n8) fi=>?_
    have jk:Ag ey x23 (co++([.int .i64 x21]:List Value)):=by rw [fy]; exact Ag.append dx e7
    obtain rfl:i2=0:=Nat.le_zero.1 j7
    refine hK _ _ ?_
    refine Rk 7 1 [tS 5 dp x23.length dr,tI 13 x_v11,tI 12 ((r_.legs.length:Nat):Int),tS 11 af r_.legs.length ag,tP 4 2 0,tP 3 1 0,tP 2 0 0] kf fi fun pz kg=>?_
    refine wf (Aa (Rk 0 2 [tI 13 (IntKind.i64.wrap (x_v11+1)),tS 5 dp x23.length dr,tI 12 ((r_.legs.length:Nat):Int),tS 11 af r_.legs.length ag,tP 4 2 0,tP 3 1 0,tP 2 0 0] kg fi fun p0 kh=>?_))
    refine wf ?_
    exact XY f9 ⟨Nat.lt_succ_self _,XY x23 ⟨IntKind.i64.wrap (x_v11+1),dp,dr,co++([.int .i64 x21]:List Value),_,_,rfl,(kh.keep [13,12,11,5,4,3,2] (by rfl)).cut 3 (by kernel_rfl),(fi.cutRw 1).cutPl 3 (by kernel_rfl),XU cl hw,jk,a6⟩⟩
   ·
    rw [e1,XV] at a6
    refine wp_exit ?_
    obtain rfl:=XZ a6
    exact XY ay ⟨az,co,_,_,rfl,fd.kp,fu,cl,dx⟩
 ·
  rintro _ gu ⟨bo,bq,ce,gn,a9,rfl,ki,hx,dz,j2⟩
  replace bd:=bd.mono dz
  replace be:=be.mono dz
  replace bf:=bf.mono dz
  replace aw:=aw.mono dz
  refine XT (XT (Aa (Rk 0 4 [tI 28 0,tI 27 ((r_.buses.length:Nat):Int),tS 26 f r_.buses.length g,tS 5 bo bn.length bq,tP 4 2 0,tP 3 1 0,tP 2 0 0] ki hx fun p1 kj=>?_)))
  refine wf ?_
  have nc:Ah ⟨w,h,A4⟩ a9 [(p,0),(q,0),(s,0)] [⟨Di af r_ ag f g ah ai,some 43⟩,⟨[.func m k l],some 132⟩,⟨Ki,some 76⟩] [⟨bo,bn.length,bq,3,1,ce,0⟩,⟨none,0,0,3,1,[],0⟩] gu:=hx.nilRow 3 1
  have jl:Ag a9 ([]:List Int) []:=Ag.nil
  have nd:Ah ⟨w,h,A4⟩ a9 [(p,0),(q,0),(s,0)] [⟨Di af r_ ag f g ah ai,some 43⟩,⟨[.func m k l],some 132⟩,⟨Ki,some 76⟩] [⟨bo,bn.length,bq,3,1,ce,0⟩,⟨none,0,0,3,1,[],0⟩,⟨none,0,0,3,1,[],0⟩] gu:=nc.nilRow 3 1
  have jm:Ag a9 ([]:List Int) []:=Ag.nil
  have nf:Ah ⟨w,h,A4⟩ a9 [(p,0),(q,0),(s,0)] [⟨Di af r_ ag f g ah ai,some 43⟩,⟨[.func m k l],some 132⟩,⟨Ki,some 76⟩] [⟨bo,bn.length,bq,3,1,ce,0⟩,⟨none,0,0,3,1,[],0⟩,⟨none,0,0,3,1,[],0⟩,⟨none,0,0,31,1,[],0⟩] gu:=nd.nilRow 31 1
  have jn:Ag a9 ([]:List (List Int)) []:=Ag.nil
  obtain⟨aj,g8,H⟩:=Aw H
  refine Az (fun a' w'=>∃ (cp:Option Addr)(cw:Nat)(d8:List Value)(es:Nat)(a1:Option Addr)(a3:Nat)(cm:List Value)(a2:Option Addr)(a4:Nat)(cn:List Value)(dq:Option Addr)(ds:Nat)(d9:List Value)(ga:Array Value)(bl:Ae),a' = ⟨ga,[]⟩∧Kn 74 [(p,0),(q,0),(s,0)] [tS 5 cp aj.1.length cw,tP 4 2 0,tP 2 0 0] ga∧Ah ⟨w,h,A4⟩ bl [(p,0),(q,0),(s,0)] [⟨Di af r_ ag f g ah ai,some 43⟩,⟨[.func m k l],some 132⟩,⟨[.slice a1 aj.2.1.length a3,.slice a2 aj.2.2.1.length a4,.slice dq aj.2.2.2.length ds],some 76⟩] [⟨cp,aj.1.length,cw,3,1,d8,es⟩,⟨a1,aj.2.1.length,a3,3,1,cm,0⟩,⟨a2,aj.2.2.1.length,a4,3,1,cn,0⟩,⟨dq,aj.2.2.2.length,ds,31,1,d9,0⟩] w'∧Ae.le a9 bl∧Ag bl aj.1 d8∧Ag bl aj.2.1 cm∧Ag bl aj.2.2.1 cn∧Ag bl aj.2.2.2 d9) ?_ ?_
  ·
   refine wp_block ?_
   refine Ar (fun n5 a' w'=>∃ (x_v20:List Int)(x_v21:List Int)(x_v22:List Int)(x_v23:List (List Int))(x_v24:Int)(a:Option Addr)(d:Nat)(am:List Value)(ax:Nat)(aa:Option Addr)(ab:Nat)(al:List Value)(y:Option Addr)(z:Nat)(ap:List Value)(u:Option Addr)(x:Nat)(aq:List Value)(gb:Array Value)(ak:Ae),a' = ⟨gb,[]⟩∧Kn 74 [(p,0),(q,0),(s,0)] (Ca x_v24 r_ f g a x_v20 d) gb∧Ah ⟨w,h,A4⟩ ak [(p,0),(q,0),(s,0)] [⟨Di af r_ ag f g ah ai,some 43⟩,⟨[.func m k l],some 132⟩,⟨Sj aa x_v21 ab y x_v22 z u x_v23 x,some 76⟩] [⟨a,x_v20.length,d,3,1,am,ax⟩,⟨aa,x_v21.length,ab,3,1,al,0⟩,⟨y,x_v22.length,z,3,1,ap,0⟩,⟨u,x_v23.length,x,31,1,aq,0⟩] w'∧Ae.le a9 ak∧Ag ak x_v20 am∧Ag ak x_v21 al∧Ag ak x_v22 ap∧Ag ak x_v23 aq∧B4 n5 r_ e x_v20 x_v21 x_v22 x_v23 x_v24=some aj) n ?_ ?_
   ·
    exact XY bn ⟨([]:List Int),([]:List Int),([]:List (List Int)),0,bo,bq,ce,0,none,0,[],none,0,[],none,0,[],_,_,rfl,kj.kp,nf,Ae.le_refl _,j2,jl,jm,jn,g8⟩
   ·
    rintro d6 _ qu ⟨x_v20,x_v21,x_v22,x_v23,x_v24,a,d,am,ax,aa,ab,al,y,z,ap,u,x,aq,gb,ak,rfl,kl,fj,ck,b7,a5,du,dv,ar⟩
    clear g8
    obtain _ | d6:=d6
    ·
     rw [B4] at ar; cases ar
    rw [B4] at ar
    replace bd:=bd.mono ck
    replace be:=be.mono ck
    replace bf:=bf.mono ck
    replace aw:=aw.mono ck
    refine XT (Aa (Rk 0 1 ((tB 29 (decide (x_v24<((r_.buses.length:Nat):Int))))::(Ca x_v24 r_ f g a x_v20 d)) kl fj fun p2 e8=>?_))
    refine wf (XT (wC (decide (x_v24<((r_.buses.length:Nat):Int))) e8 (fun ez=>?_) (fun ez=>?_)))
    ·
     rw [ez,XW] at ar
     refine wp_skip (XT (wp_block (XT (Aa ?_))))
     obtain⟨x30,ex30,ar⟩:=Aw ar
     obtain⟨nr,nt,n3⟩:=Ai ex30
     obtain⟨ac,ad,pp,ji,n1,jq⟩:=be.get (by decide) n3
     obtain⟨_,_,rfl,rfl,⟨_,_,rfl,rfl,rfl⟩⟩:=n1
     have hy:=fj.addPlc (b:=ac) (o:=ad+(x_v24:Int).toNat*3) (cs:=(FJ x30)) (fun j c hj=>jq j _ (Ak hj)) rfl (by kernel_rfl) (by kernel_rfl)
     refine Bl 0 (x_v24) rfl rfl (rfl) rfl (by decide) e8 (by rfl) (by rfl) (by rfl) ji (by rfl) nr nt (by kernel_rfl) fun oa (km:Kn 74 [(p,0),(q,0),(s,0),(ac,ad+(x_v24:Int).toNat*3)] ((tP 30 3 0)::(tB 29 (decide (x_v24<((r_.buses.length:Nat):Int))))::(Ca x_v24 r_ f g a x_v20 d)) oa)=>?_
     refine Rk 1 1 ((tA 31 (FJ x30))::(Ca x_v24 r_ f g a x_v20 d)) km hy fun p3 kn=>?_
     refine wl fun K hK=>?_
     refine wa [.int .i64 0,.int .i64 0,.int .i64 0] kn hy fun ae iw qv (ko:Kn 74 (A2 p q s ac ad x_v24 ae) ((tP 9 4 0)::(tA 31 (FJ x30))::(Ca x_v24 r_ f g a x_v20 d)) iw) nh=>hK _ _ ?_
     refine wl fun K hK=>?_
     refine EY 4 0 (.agg (FJ x30)) (FJ x30) ko nh fun gv kq d1=>hK _ _ ?_
     have kr:Kn 74 (A2 p q s ac ad x_v24 ae) ((tP 9 4 0)::(Ca x_v24 r_ f g a x_v20 d)) iw:=kq.kp
     refine wf (Am (by kernel_rfl) ?_)
     replace d1:=d1.drew
     refine An [12,14] (A2 p q s ac ad x_v24 ae) (C8 af r_ ag f g ah ai m k l aa x_v21 ab y x_v22 z u x_v23 x x30) ?_
     refine Dr [0,1,2,3,4,5,9,10,11,13,18,19,20] [20,19,18,13,11,10,9,5,4,3,2,1,0] (Ea a x_v20 d u x_v23 x y x_v22 z x30 m k l aa x_v21 ab x_v24 r_ f g) kr d1 fun p4 e9=>?_
     obtain⟨x38,ex38,ar⟩:=Aw ar
     obtain⟨x40,ex40,ar⟩:=Aw ar
     obtain⟨x47,ex47,ar⟩:=Aw ar
     obtain⟨x49,ex49,ar⟩:=Aw ar
     obtain⟨x53,ex53,ar⟩:=Aw ar
     obtain⟨x55,ex55,ar⟩:=Aw ar
     have ni:Ah ⟨w,h,A4⟩ ak (A2 p q s ac ad x_v24 ae) (C8 af r_ ag f g ah ai m k l aa x_v21 ab y x_v22 z u x_v23 x x30) [⟨a,x_v20.length,d,3,1,am,ax⟩,⟨aa,x_v21.length,ab,3,1,al,0⟩,⟨y,x_v22.length,z,3,1,ap,0⟩,⟨u,x_v23.length,x,31,1,aq,0⟩,⟨none,0,0,3,1,[],0⟩] (World.drew gv):=d1.nilRow 3 1
     have pu:Ag ak ([]:List Int) []:=Ag.nil
     have nj:Ah ⟨w,h,A4⟩ ak (A2 p q s ac ad x_v24 ae) (C8 af r_ ag f g ah ai m k l aa x_v21 ab y x_v22 z u x_v23 x x30) [⟨a,x_v20.length,d,3,1,am,ax⟩,⟨aa,x_v21.length,ab,3,1,al,0⟩,⟨y,x_v22.length,z,3,1,ap,0⟩,⟨u,x_v23.length,x,31,1,aq,0⟩,⟨none,0,0,3,1,[],0⟩,⟨none,0,0,3,1,[],0⟩] (World.drew gv):=ni.nilRow 3 1
     have pv:Ag ak ([]:List Int) []:=Ag.nil
     have a0:Ah ⟨w,h,A4⟩ ak (A2 p q s ac ad x_v24 ae) (C8 af r_ ag f g ah ai m k l aa x_v21 ab y x_v22 z u x_v23 x x30) (KS a x_v20 d am ax aa x_v21 ab al y x_v22 z ap u x_v23 x aq) (World.drew gv):=nj.nilRow 31 1
     have pw:Ag ak ([]:List (List Int)) []:=Ag.nil
     refine Bb (fun W=>∀ (au:Option Addr),∀ (av:Nat),∀ (dm:List Value),∀ (ef:Option Addr),∀ (el:Nat),∀ (ea:List Value),∀ a' w',(∃ (gc:Array Value)(cj:Ae),a' = ⟨gc,[]⟩∧Kn 74 (A2 p q s ac ad x_v24 ae) (Ie r_ m k l au x40 av a x_v20 d u x_v23 x y x_v22 z x_v24 f g) gc∧Ah ⟨w,h,A4⟩ cj (A2 p q s ac ad x_v24 ae) (C8 af r_ ag f g ah ai m k l aa x_v21 ab y x_v22 z u x_v23 x x30) [⟨a,x_v20.length,d,3,1,am,ax⟩,⟨au,x40.length,av,3,1,dm,0⟩,⟨y,x_v22.length,z,3,1,ap,0⟩,⟨u,x_v23.length,x,31,1,aq,0⟩,⟨ef,1,el,3,1,ea,0⟩,⟨none,0,0,3,1,[],0⟩,⟨none,0,0,31,1,[],0⟩] w'∧Ae.le ak cj∧Ag cj x40 dm∧Ag cj ([x38]:List Int) ea)→W (A2 p q s ac ad x_v24 ae) (C8 af r_ ag f g ah ai m k l aa x_v21 ab y x_v22 z u x_v23 x x30) [24,8,7,6,12,14,20,19,18,13,11,10,9,5,4,3,2,1,0] a' w') ?_ (fun f6=>?_)
     ·
      intro au av dm ef el ea
      rintro _ qx ⟨gc,cj,rfl,kt,hz,dg,e2,px⟩
      replace aw:=aw.mono dg
      refine Dl 15 fun K hK=>?_
      refine Dq (.func m k l) [.agg (Cl r_)] _ kt hz rfl rfl (by decide) (by rfl) (by rfl) rfl (aw _ _ (Ae.le_refl _) hz.has r_.turn _ ((Ab Ac Ac):rep cj r_.turn _) _ ex47) fun qk eu qy ja dh h0=>?_
      replace du:=du.mono (XU dg dh)
      obtain rfl:=ja
      refine⟨.one (.c (.int .i64 x47)),rfl,fun oc (ku:Kn 74 (A2 p q s ac ad x_v24 ae) ((tI 47 x47)::(Ie r_ m k l au x40 av a x_v20 d u x_v23 x y x_v22 z x_v24 f g)) oc)=>hK _ _ h0.plOk ?_⟩
      refine Dl 16 fun K hK=>?_
      refine BE 5 rfl rfl 3 1 [.int .i64 x47] ku h0 rfl rfl (by decide) (by kernel_rfl) (by rfl) (by rfl) rfl (by decide) fun cg od qz (kv:Kn 74 (A2 p q s ac ad x_v24 ae) ((tS 48 cg 1 1)::(tI 47 x47)::(Ie r_ m k l au x40 av a x_v20 d u x_v23 x y x_v22 z x_v24 f g)) od) fk=>?_
      have e3:Ag eu ([x47]:List Int) ([.int .i64 x47]:List Value):=⟨_,_,rfl,(Ac:rep eu (x47:Int) _),rfl⟩
      refine hK _ _ fk.plOk ?_
      refine Dl 17 fun K hK=>?_
      obtain⟨fz,mz⟩:=AU ex49
      refine AE 2 8 1 _ (x49.length) _ ([.int .i64 x47]:List Value) kv fk rfl rfl (by decide) rfl (by rfl) (by kernel_rfl) (by rfl) (by rfl) (Ag.len e3) (fk.rowCell (i:=5) rfl) e3.one (by rw [fz]; simp <;> omega) (by rw [fz]; exact mz) (by decide) fun a7 a8 i3 oe pm j8 (kw:Kn 74 (A2 p q s ac ad x_v24 ae) ((tS 49 a7 x49.length a8)::(tS 48 cg 1 1)::(tI 47 x47)::(Ie r_ m k l au x40 av a x_v20 d u x_v23 x y x_v22 z x_v24 f g)) oe) fl=>?_
      have e4:Ag eu x49 (ap++([.int .i64 x47]:List Value)):=by rw [fz]; exact Ag.append du e3
      obtain rfl:i3=0:=Nat.le_zero.1 j8
      refine hK _ _ fl.plOk ?_
      refine Dl 21 fun K hK=>?_
      obtain⟨hc,di,nz,d2⟩:=fl.settle (i:=0) rfl
      replace b7:=b7.mono (XU (XU dg dh) di)
      replace d2:Ah ⟨w,h,A4⟩ hc (A2 p q s ac ad x_v24 ae) (C8 af r_ ag f g ah ai m k l aa x_v21 ab y x_v22 z u x_v23 x x30) [⟨a,x_v20.length,d,3,1,am,(am:List Value).length⟩,⟨au,x40.length,av,3,1,dm,0⟩,⟨a7,x49.length,a8,3,1,ap++([.int .i64 x47]:List Value),0⟩,⟨u,x_v23.length,x,31,1,aq,0⟩,⟨ef,1,el,3,1,ea,0⟩,⟨cg,1,1,3,1,([.int .i64 x47]:List Value),0⟩,⟨none,0,0,31,1,[],0⟩] pm:=d2
      have nv:A8 hc a d x_v20:=⟨_,b7,nz,fl.rowCap (i:=0) rfl⟩
      refine wc [.c (.slice a x_v20.length d)] kw d2 (C4 d6 d2.has x_v20 nv ex53) fun ql ev q0 jb dj h1=>?_
      replace b7:=b7.mono dj
      replace e2:=e2.mono (XU (XU dh di) dj)
      replace e4:=e4.mono (XU di dj)
      replace dv:=dv.mono (XU (XU (XU dg dh) di) dj)
      obtain⟨bh,bj,rfl,nw⟩:=jb
      refine⟨.one (.c (.slice bh x53.length bj)),rfl,fun og (kx:Kn 74 (A2 p q s ac ad x_v24 ae) ((tS 53 bh x53.length bj)::(tS 49 a7 x49.length a8)::(tS 48 cg 1 1)::(tI 47 x47)::(Ie r_ m k l au x40 av a x_v20 d u x_v23 x y x_v22 z x_v24 f g)) og)=>hK _ _ h1.plOk ?_⟩
      refine Dl 22 fun K hK=>?_
      refine BE 6 rfl rfl 31 1 [.slice bh x53.length bj] kx h1 rfl rfl (by decide) (by kernel_rfl) (by rfl) (by rfl) rfl (by decide) fun gy oh q1 (kz:Kn 74 (A2 p q s ac ad x_v24 ae) ((tS 54 gy 1 1)::(tS 53 bh x53.length bj)::(tS 49 a7 x49.length a8)::(tS 48 cg 1 1)::(tI 47 x47)::(Ie r_ m k l au x40 av a x_v20 d u x_v23 x y x_v22 z x_v24 f g)) oh) fm=>?_
      have e5:Ag ev ([x53]:List (List Int)) ([.slice bh x53.length bj]:List Value):=⟨_,_,rfl,((Ad nw):rep ev (x53:List Int) _),rfl⟩
      refine hK _ _ fm.plOk ?_
      refine Dl 23 fun K hK=>?_
      obtain⟨f0,m0⟩:=AU ex55
      refine AE 3 24 1 _ (x55.length) _ ([.slice bh x53.length bj]:List Value) kz fm rfl rfl (by decide) rfl (by rfl) (by kernel_rfl) (by rfl) (by rfl) (Ag.len e5) (fm.rowCell (i:=6) rfl) e5.one (by rw [f0]; simp <;> omega) (by rw [f0]; exact m0) (by decide) fun bx b3 i4 oi q2 j9 (k0:Kn 74 (A2 p q s ac ad x_v24 ae) ((tS 55 bx x55.length b3)::(tS 54 gy 1 1)::(tS 53 bh x53.length bj)::(tS 49 a7 x49.length a8)::(tS 48 cg 1 1)::(tI 47 x47)::(Ie r_ m k l au x40 av a x_v20 d u x_v23 x y x_v22 z x_v24 f g)) oi) h2=>?_
      have jr:Ag ev x55 (aq++([.slice bh x53.length bj]:List Value)):=by rw [f0]; exact Ag.append dv e5
      obtain rfl:i4=0:=Nat.le_zero.1 j9
      refine hK _ _ h2.plOk ?_
      refine Cv 25 rfl (by kernel_rfl) (by decide) (rfl) (by kernel_rfl) fun K hK=>?_
      refine EY 2 0 (.c (.slice au x40.length av)) [.slice au x40.length av,.slice y x_v22.length z,.slice u x_v23.length x] k0 h2 fun q3 k1 h3=>hK _ _ ?_
      refine An [12,14] (A2 p q s ac ad x_v24 ae) [⟨Di af r_ ag f g ah ai,some 43⟩,⟨[.func m k l],some 132⟩,⟨[.slice au x40.length av,.slice y x_v22.length z,.slice u x_v23.length x],some 76⟩,⟨FJ x30,none⟩,⟨FJ x30,some 96⟩] ?_
      refine Dr [26] [26,25,23,22,21,17,16,15,24,8,7,6,12,14,20,19,18,13,11,10,9,5,4,3,2,1,0] ((tP 57 2 1)::(tS 55 bx x55.length b3)::(tS 49 a7 x49.length a8)::(Ca x_v24 r_ f g a x_v20 d)) k1 h3 fun p5 k2=>?_
      refine Cv 27 rfl (by kernel_rfl) (by decide) (rfl) (by kernel_rfl) fun K hK=>?_
      refine EY 2 1 (.c (.slice a7 x49.length a8)) [.slice au x40.length av,.slice a7 x49.length a8,.slice u x_v23.length x] k2 h3 fun q4 k4 h4=>hK _ _ ?_
      refine An [12,14] (A2 p q s ac ad x_v24 ae) [⟨Di af r_ ag f g ah ai,some 43⟩,⟨[.func m k l],some 132⟩,⟨[.slice au x40.length av,.slice a7 x49.length a8,.slice u x_v23.length x],some 76⟩,⟨FJ x30,none⟩,⟨FJ x30,some 96⟩] ?_
      refine Dr [28] [28,27,26,25,23,22,21,17,16,15,24,8,7,6,12,14,20,19,18,13,11,10,9,5,4,3,2,1,0] ((tP 58 2 2)::(tS 55 bx x55.length b3)::(Ca x_v24 r_ f g a x_v20 d)) k4 h4 fun oj k5=>?_
      refine Cv 29 rfl (by kernel_rfl) (by decide) (rfl) (by kernel_rfl) fun K hK=>?_
      refine EY 2 2 (.c (.slice bx x55.length b3)) [.slice au x40.length av,.slice a7 x49.length a8,.slice bx x55.length b3] k5 h4 fun q5 k6 h5=>hK _ _ ?_
      refine An [12,14] (A2 p q s ac ad x_v24 ae) [⟨Di af r_ ag f g ah ai,some 43⟩,⟨[.func m k l],some 132⟩,⟨[.slice au x40.length av,.slice a7 x49.length a8,.slice bx x55.length b3],some 76⟩,⟨FJ x30,none⟩,⟨FJ x30,some 96⟩] ?_
      have k7:Kn 74 (A2 p q s ac ad x_v24 ae) (Ca x_v24 r_ f g a x_v20 d) oj:=k6.kp
      refine A3 (by kernel_rfl) (Aa (Rk 0 2 [tI 28 (IntKind.i64.wrap (x_v24+1)),tI 27 ((r_.buses.length:Nat):Int),tS 26 f r_.buses.length g,tS 5 a x_v20.length d,tP 4 2 0,tP 3 1 0,tP 2 0 0] k7 h5 fun p6 k8=>?_))
      refine wf ?_
      exact XY d6 ⟨Nat.lt_succ_self _,XY x_v20 ⟨x40,x49,x55,IntKind.i64.wrap (x_v24+1),a,d,am,(am:List Value).length,au,av,dm,a7,a8,ap++([.int .i64 x47]:List Value),bx,b3,aq++([.slice bh x53.length bj]:List Value),_,_,rfl,(k8.keep [28,27,26,5,4,3,2] (by rfl)).cut 3 (by kernel_rfl),(h5.cutRw 4).cutPl 3 (by kernel_rfl),XU ck (XU dg (XU dh (XU di dj))),b7,e2,e4,jr,ar⟩⟩
     refine Bb (fun W=>∀ (cq:Option Addr),∀ (cx:Nat),∀ (eb:List Value),∀ (eg:Option Addr),∀ (em:Nat),∀ (ec:List Value),∀ a' w',(∃ (gd:Array Value)(c1:Ae),a' = ⟨gd,[]⟩∧Kn 74 (A2 p q s ac ad x_v24 ae) ((44,.one (.c (.func m k l)))::(tP 56 2 0)::(tS 40 cq x40.length cx)::(tS 52 a x_v20.length d)::(tS 51 u x_v23.length x)::(tP 45 0 1)::(tS 42 y x_v22.length z)::(Ca x_v24 r_ f g a x_v20 d)) gd∧Ah ⟨w,h,A4⟩ c1 (A2 p q s ac ad x_v24 ae) (C8 af r_ ag f g ah ai m k l aa x_v21 ab y x_v22 z u x_v23 x x30) [⟨a,x_v20.length,d,3,1,am,ax⟩,⟨cq,x40.length,cx,3,1,eb,0⟩,⟨y,x_v22.length,z,3,1,ap,0⟩,⟨u,x_v23.length,x,31,1,aq,0⟩,⟨eg,1,em,3,1,ec,0⟩,⟨none,0,0,3,1,[],0⟩,⟨none,0,0,31,1,[],0⟩] w'∧Ae.le ak c1∧Ag c1 x40 eb∧Ag c1 ([x38]:List Int) ec)→W (A2 p q s ac ad x_v24 ae) (C8 af r_ ag f g ah ai m k l aa x_v21 ab y x_v22 z u x_v23 x x30) [24,8,7,6,12,20,19,18,13,11,10,9,5,4,3,2,1,0] a' w') ?_ (fun im=>?_)
     ·
      intro cq cx eb eg em ec
      rintro _ q6 ⟨gd,c1,rfl,la,fo,m6,js,jt⟩
      refine Dl 14 fun K hK=>?_
      refine AZ la fo.plOk rfl (by decide) (by kernel_rfl) fun ok (lb:Kn 74 (A2 p q s ac ad x_v24 ae) ((tA 46 (Cl r_))::(44,.one (.c (.func m k l)))::(tP 56 2 0)::(tS 40 cq x40.length cx)::(tS 52 a x_v20.length d)::(tS 51 u x_v23.length x)::(tP 45 0 1)::(tS 42 y x_v22.length z)::(Ca x_v24 r_ f g a x_v20 d)) ok)=>hK _ _ fo.plOk ?_
      refine A1 [24,8,7,6,12,14,20,19,18,13,11,10,9,5,4,3,2,1,0] (by kernel_rfl) (by rfl) (f6 cq cx eb eg em ec _ _ ?_)
      exact XY _ ⟨_,rfl,lb.kp,fo,m6,js,jt⟩
     refine Bb (fun W=>∀ (cr:Option Addr),∀ (cy:Nat),∀ (ed:List Value),∀ (eh:Option Addr),∀ (en:Nat),∀ (ee:List Value),∀ a' w',(∃ (gf:Array Value)(c2:Ae),a' = ⟨gf,[]⟩∧Kn 74 (A2 p q s ac ad x_v24 ae) ((tA 46 (Cl r_))::(tP 56 2 0)::(tS 40 cr x40.length cy)::(tS 52 a x_v20.length d)::(tS 51 u x_v23.length x)::(tP 43 1 0)::(tS 42 y x_v22.length z)::(Ca x_v24 r_ f g a x_v20 d)) gf∧Ah ⟨w,h,A4⟩ c2 (A2 p q s ac ad x_v24 ae) (C8 af r_ ag f g ah ai m k l aa x_v21 ab y x_v22 z u x_v23 x x30) [⟨a,x_v20.length,d,3,1,am,ax⟩,⟨cr,x40.length,cy,3,1,ed,0⟩,⟨y,x_v22.length,z,3,1,ap,0⟩,⟨u,x_v23.length,x,31,1,aq,0⟩,⟨eh,1,en,3,1,ee,0⟩,⟨none,0,0,3,1,[],0⟩,⟨none,0,0,31,1,[],0⟩] w'∧Ae.le ak c2∧Ag c2 x40 ed∧Ag c2 ([x38]:List Int) ee)→W (A2 p q s ac ad x_v24 ae) (C8 af r_ ag f g ah ai m k l aa x_v21 ab y x_v22 z u x_v23 x x30) [24,8,7,6,14,20,19,18,13,11,10,9,5,4,3,2,1,0] a' w') ?_ (fun io=>?_)
     ·
      intro cr cy ed eh en ee
      rintro _ q7 ⟨gf,c2,rfl,ld,fp,m7,ju,jv⟩
      refine Dl 12 fun K hK=>?_
      refine AZ ld fp.plOk rfl (by decide) (by kernel_rfl) fun ol (lf:Kn 74 (A2 p q s ac ad x_v24 ae) ((44,.one (.c (.func m k l)))::(tA 46 (Cl r_))::(tP 56 2 0)::(tS 40 cr x40.length cy)::(tS 52 a x_v20.length d)::(tS 51 u x_v23.length x)::(tP 43 1 0)::(tS 42 y x_v22.length z)::(Ca x_v24 r_ f g a x_v20 d)) ol)=>hK _ _ fp.plOk ?_
      refine A1 [24,8,7,6,12,14,20,19,18,13,11,10,9,5,4,3,2,1,0] (by kernel_rfl) (by rfl) (f6 cr cy ed eh en ee _ _ ?_)
      exact XY _ ⟨_,rfl,lf.kp,fp,m7,ju,jv⟩
     refine Bb (fun W=>∀ (ct:Option Addr),∀ (cz:Nat),∀ (cd:List Value),∀ a' w',(∃ (gg:Array Value)(c3:Ae),a' = ⟨gg,[]⟩∧Kn 74 (A2 p q s ac ad x_v24 ae) ((tA 46 (Cl r_))::(44,.one (.c (.func m k l)))::(tS 39 ct 1 cz)::(tS 52 a x_v20.length d)::(tS 51 u x_v23.length x)::(Dn y x_v22 z aa x_v21 ab x_v24 r_ f g a x_v20 d)) gg∧Ah ⟨w,h,A4⟩ c3 (A2 p q s ac ad x_v24 ae) (C8 af r_ ag f g ah ai m k l aa x_v21 ab y x_v22 z u x_v23 x x30) [⟨a,x_v20.length,d,3,1,am,ax⟩,⟨aa,x_v21.length,ab,3,1,al,0⟩,⟨y,x_v22.length,z,3,1,ap,0⟩,⟨u,x_v23.length,x,31,1,aq,0⟩,⟨ct,1,cz,3,1,cd,0⟩,⟨none,0,0,3,1,[],0⟩,⟨none,0,0,31,1,[],0⟩] w'∧Ae.le ak c3∧Ag c3 ([x38]:List Int) cd)→W (A2 p q s ac ad x_v24 ae) (C8 af r_ ag f g ah ai m k l aa x_v21 ab y x_v22 z u x_v23 x x30) [7,6,12,14,20,19,18,13,11,10,9,5,4,3,2,1,0] a' w') ?_ (fun f7=>?_)
     ·
      intro ct cz cd
      rintro _ q8 ⟨gg,c3,rfl,lg,h6,hr,dw⟩
      replace a5:=a5.mono hr
      refine Dl 8 fun K hK=>?_
      obtain⟨f1,m1⟩:=AU ex40
      refine AE 1 8 1 _ (x40.length) _ cd lg h6 rfl rfl (by decide) rfl (by rfl) (by kernel_rfl) (by rfl) (by rfl) (Ag.len dw) (h6.rowCell (i:=4) rfl) dw.one (by rw [f1]; simp <;> omega) (by rw [f1]; exact m1) (by decide) fun ei eo i5 om q9 ka (lh:Kn 74 (A2 p q s ac ad x_v24 ae) ((tS 40 ei x40.length eo)::(tA 46 (Cl r_))::(44,.one (.c (.func m k l)))::(tS 39 ct 1 cz)::(tS 52 a x_v20.length d)::(tS 51 u x_v23.length x)::(Dn y x_v22 z aa x_v21 ab x_v24 r_ f g a x_v20 d)) om) fq=>?_
      have jx:Ag c3 x40 (al++cd):=by rw [f1]; exact Ag.append a5 dw
      obtain rfl:i5=0:=Nat.le_zero.1 ka
      refine hK _ _ fq.plOk ?_
      refine Dr [24] [24,8,7,6,12,14,20,19,18,13,11,10,9,5,4,3,2,1,0] ((tP 56 2 0)::(tS 40 ei x40.length eo)::(tA 46 (Cl r_))::(44,.one (.c (.func m k l)))::(tS 52 a x_v20.length d)::(tS 51 u x_v23.length x)::(tS 42 y x_v22.length z)::(Ca x_v24 r_ f g a x_v20 d)) lh fq fun p9 li=>?_
      refine A1 [24,8,7,6,12,14,20,19,18,13,11,10,9,5,4,3,2,1,0] (by kernel_rfl) (by rfl) (f6 ei eo (al++cd) ct cz cd _ _ ?_)
      exact XY _ ⟨_,rfl,li.kp,fq,hr,jx,dw⟩
     refine Bb (fun W=>∀ (bz:Option Addr),∀ (b4:Nat),∀ (bu:List Value),∀ a' w',(∃ (gh:Array Value)(c4:Ae),a' = ⟨gh,[]⟩∧Kn 74 (A2 p q s ac ad x_v24 ae) ((44,.one (.c (.func m k l)))::(tS 39 bz 1 b4)::(tS 52 a x_v20.length d)::(tS 51 u x_v23.length x)::(tP 45 0 1)::(Dn y x_v22 z aa x_v21 ab x_v24 r_ f g a x_v20 d)) gh∧Ah ⟨w,h,A4⟩ c4 (A2 p q s ac ad x_v24 ae) (C8 af r_ ag f g ah ai m k l aa x_v21 ab y x_v22 z u x_v23 x x30) [⟨a,x_v20.length,d,3,1,am,ax⟩,⟨aa,x_v21.length,ab,3,1,al,0⟩,⟨y,x_v22.length,z,3,1,ap,0⟩,⟨u,x_v23.length,x,31,1,aq,0⟩,⟨bz,1,b4,3,1,bu,0⟩,⟨none,0,0,3,1,[],0⟩,⟨none,0,0,31,1,[],0⟩] w'∧Ae.le ak c4∧Ag c4 ([x38]:List Int) bu)→W (A2 p q s ac ad x_v24 ae) (C8 af r_ ag f g ah ai m k l aa x_v21 ab y x_v22 z u x_v23 x x30) [7,6,12,20,19,18,13,11,10,9,5,4,3,2,1,0] a' w') ?_ (fun ip=>?_)
     ·
      intro bz b4 bu
      rintro _ ra ⟨gh,c4,rfl,hf,dk,fe,de⟩
      replace a5:=a5.mono fe
      refine Dy 8 14 rfl rfl (by kernel_rfl) (by decide) (rfl) (rfl) (fun K hK=>?_) (fun K hK=>?_)
      ·
       obtain⟨f2,m2⟩:=AU ex40
       refine AE 1 8 1 _ (x40.length) _ bu hf dk rfl rfl (by decide) rfl (by rfl) (by kernel_rfl) (by rfl) (by rfl) (Ag.len de) (dk.rowCell (i:=4) rfl) de.one (by rw [f2]; simp <;> omega) (by rw [f2]; exact m2) (by decide) fun ej ep i6 oo rb kb (lj:Kn 74 (A2 p q s ac ad x_v24 ae) ((tS 40 ej x40.length ep)::(44,.one (.c (.func m k l)))::(tS 39 bz 1 b4)::(tS 52 a x_v20.length d)::(tS 51 u x_v23.length x)::(tP 45 0 1)::(Dn y x_v22 z aa x_v21 ab x_v24 r_ f g a x_v20 d)) oo) fs=>?_
       have jy:Ag c4 x40 (al++bu):=by rw [f2]; exact Ag.append a5 de
       obtain rfl:i6=0:=Nat.le_zero.1 kb
       refine hK _ _ fs.plOk ?_
       refine Dr [24] [24,8,7,6,12,20,19,18,13,11,10,9,5,4,3,2,1,0] ((tP 56 2 0)::(tS 40 ej x40.length ep)::(44,.one (.c (.func m k l)))::(tS 52 a x_v20.length d)::(tS 51 u x_v23.length x)::(tP 45 0 1)::(tS 42 y x_v22.length z)::(Ca x_v24 r_ f g a x_v20 d)) lj fs fun qa lk=>?_
       refine A1 [24,8,7,6,12,20,19,18,13,11,10,9,5,4,3,2,1,0] (by kernel_rfl) (by rfl) (im ej ep (al++bu) bz b4 bu _ _ ?_)
       exact XY _ ⟨_,rfl,lk.kp,fs,fe,jy,de⟩
      ·
       refine AZ hf dk.plOk rfl (by decide) (by kernel_rfl) fun op (ll:Kn 74 (A2 p q s ac ad x_v24 ae) ((tA 46 (Cl r_))::(44,.one (.c (.func m k l)))::(tS 39 bz 1 b4)::(tS 52 a x_v20.length d)::(tS 51 u x_v23.length x)::(tP 45 0 1)::(Dn y x_v22 z aa x_v21 ab x_v24 r_ f g a x_v20 d)) op)=>hK _ _ dk.plOk ?_
       refine A1 [7,6,12,14,20,19,18,13,11,10,9,5,4,3,2,1,0] (by kernel_rfl) (by rfl) (f7 bz b4 bu _ _ ?_)
       exact XY _ ⟨_,rfl,ll.kp,dk,fe,de⟩
     refine Bb (fun W=>∀ (b0:Option Addr),∀ (b5:Nat),∀ (bv:List Value),∀ a' w',(∃ (gi:Array Value)(c5:Ae),a' = ⟨gi,[]⟩∧Kn 74 (A2 p q s ac ad x_v24 ae) ((tA 46 (Cl r_))::(tS 39 b0 1 b5)::(tS 52 a x_v20.length d)::(tS 51 u x_v23.length x)::(tP 43 1 0)::(Dn y x_v22 z aa x_v21 ab x_v24 r_ f g a x_v20 d)) gi∧Ah ⟨w,h,A4⟩ c5 (A2 p q s ac ad x_v24 ae) (C8 af r_ ag f g ah ai m k l aa x_v21 ab y x_v22 z u x_v23 x x30) [⟨a,x_v20.length,d,3,1,am,ax⟩,⟨aa,x_v21.length,ab,3,1,al,0⟩,⟨y,x_v22.length,z,3,1,ap,0⟩,⟨u,x_v23.length,x,31,1,aq,0⟩,⟨b0,1,b5,3,1,bv,0⟩,⟨none,0,0,3,1,[],0⟩,⟨none,0,0,31,1,[],0⟩] w'∧Ae.le ak c5∧Ag c5 ([x38]:List Int) bv)→W (A2 p q s ac ad x_v24 ae) (C8 af r_ ag f g ah ai m k l aa x_v21 ab y x_v22 z u x_v23 x x30) [7,6,14,20,19,18,13,11,10,9,5,4,3,2,1,0] a' w') ?_ (fun iq=>?_)
     ·
      intro b0 b5 bv
      rintro _ rc ⟨gi,c5,rfl,hg,dl,ff,df⟩
      replace a5:=a5.mono ff
      refine Dy 8 12 rfl rfl (by kernel_rfl) (by decide) (rfl) (rfl) (fun K hK=>?_) (fun K hK=>?_)
      ·
       obtain⟨f3,m3⟩:=AU ex40
       refine AE 1 8 1 _ (x40.length) _ bv hg dl rfl rfl (by decide) rfl (by rfl) (by kernel_rfl) (by rfl) (by rfl) (Ag.len df) (dl.rowCell (i:=4) rfl) df.one (by rw [f3]; simp <;> omega) (by rw [f3]; exact m3) (by decide) fun ek er i7 oq rd kc (lm:Kn 74 (A2 p q s ac ad x_v24 ae) ((tS 40 ek x40.length er)::(tA 46 (Cl r_))::(tS 39 b0 1 b5)::(tS 52 a x_v20.length d)::(tS 51 u x_v23.length x)::(tP 43 1 0)::(Dn y x_v22 z aa x_v21 ab x_v24 r_ f g a x_v20 d)) oq) ft=>?_
       have jz:Ag c5 x40 (al++bv):=by rw [f3]; exact Ag.append a5 df
       obtain rfl:i7=0:=Nat.le_zero.1 kc
       refine hK _ _ ft.plOk ?_
       refine Dr [24] [24,8,7,6,14,20,19,18,13,11,10,9,5,4,3,2,1,0] ((tP 56 2 0)::(tS 40 ek x40.length er)::(tA 46 (Cl r_))::(tS 52 a x_v20.length d)::(tS 51 u x_v23.length x)::(tP 43 1 0)::(tS 42 y x_v22.length z)::(Ca x_v24 r_ f g a x_v20 d)) lm ft fun qb ln=>?_
       refine A1 [24,8,7,6,14,20,19,18,13,11,10,9,5,4,3,2,1,0] (by kernel_rfl) (by rfl) (io ek er (al++bv) b0 b5 bv _ _ ?_)
       exact XY _ ⟨_,rfl,ln.kp,ft,ff,jz,df⟩
      ·
       refine AZ hg dl.plOk rfl (by decide) (by kernel_rfl) fun os (lp:Kn 74 (A2 p q s ac ad x_v24 ae) ((44,.one (.c (.func m k l)))::(tA 46 (Cl r_))::(tS 39 b0 1 b5)::(tS 52 a x_v20.length d)::(tS 51 u x_v23.length x)::(tP 43 1 0)::(Dn y x_v22 z aa x_v21 ab x_v24 r_ f g a x_v20 d)) os)=>hK _ _ dl.plOk ?_
       refine A1 [7,6,12,14,20,19,18,13,11,10,9,5,4,3,2,1,0] (by kernel_rfl) (by rfl) (f7 b0 b5 bv _ _ ?_)
       exact XY _ ⟨_,rfl,lp.kp,dl,ff,df⟩
     refine Bb (fun W=>∀ a' w',(∃ (gj:Array Value)(c6:Ae),a' = ⟨gj,[]⟩∧Kn 74 (A2 p q s ac ad x_v24 ae) ((tA 46 (Cl r_))::(44,.one (.c (.func m k l)))::(tI 38 x38)::(tS 52 a x_v20.length d)::(tS 51 u x_v23.length x)::(Dn y x_v22 z aa x_v21 ab x_v24 r_ f g a x_v20 d)) gj∧Ah ⟨w,h,A4⟩ c6 (A2 p q s ac ad x_v24 ae) (C8 af r_ ag f g ah ai m k l aa x_v21 ab y x_v22 z u x_v23 x x30) (KS a x_v20 d am ax aa x_v21 ab al y x_v22 z ap u x_v23 x aq) w'∧Ae.le ak c6)→W (A2 p q s ac ad x_v24 ae) (C8 af r_ ag f g ah ai m k l aa x_v21 ab y x_v22 z u x_v23 x x30) [6,12,14,20,19,18,13,11,10,9,5,4,3,2,1,0] a' w') ?_ (fun f8=>?_)
     ·
      rintro _ re ⟨gj,c6,rfl,lq,nm,m8⟩
      refine Dl 7 fun K hK=>?_
      refine BE 4 rfl rfl 3 1 [.int .i64 x38] lq nm rfl rfl (by decide) (by kernel_rfl) (by rfl) (by rfl) rfl (by decide) fun gz ot rf (lr:Kn 74 (A2 p q s ac ad x_v24 ae) ((tS 39 gz 1 1)::(tA 46 (Cl r_))::(44,.one (.c (.func m k l)))::(tI 38 x38)::(tS 52 a x_v20.length d)::(tS 51 u x_v23.length x)::(Dn y x_v22 z aa x_v21 ab x_v24 r_ f g a x_v20 d)) ot) h7=>?_
      have j0:Ag c6 ([x38]:List Int) ([.int .i64 x38]:List Value):=⟨_,_,rfl,(Ac:rep c6 (x38:Int) _),rfl⟩
      refine hK _ _ h7.plOk ?_
      refine A1 [7,6,12,14,20,19,18,13,11,10,9,5,4,3,2,1,0] (by kernel_rfl) (by rfl) (f7 gz 1 ([.int .i64 x38]:List Value) _ _ ?_)
      exact XY _ ⟨_,rfl,lr.kp,h7,m8,j0⟩
     refine Bb (fun W=>∀ a' w',(∃ (gk:Array Value)(c7:Ae),a' = ⟨gk,[]⟩∧Kn 74 (A2 p q s ac ad x_v24 ae) ((44,.one (.c (.func m k l)))::(tI 38 x38)::(tS 52 a x_v20.length d)::(tS 51 u x_v23.length x)::(tP 45 0 1)::(Dn y x_v22 z aa x_v21 ab x_v24 r_ f g a x_v20 d)) gk∧Ah ⟨w,h,A4⟩ c7 (A2 p q s ac ad x_v24 ae) (C8 af r_ ag f g ah ai m k l aa x_v21 ab y x_v22 z u x_v23 x x30) (KS a x_v20 d am ax aa x_v21 ab al y x_v22 z ap u x_v23 x aq) w'∧Ae.le ak c7)→W (A2 p q s ac ad x_v24 ae) (C8 af r_ ag f g ah ai m k l aa x_v21 ab y x_v22 z u x_v23 x x30) [6,12,20,19,18,13,11,10,9,5,4,3,2,1,0] a' w') ?_ (fun ir=>?_)
     ·
      rintro _ rg ⟨gk,c7,rfl,hl,d3,hs⟩
      refine Dy 7 14 rfl rfl (by kernel_rfl) (by decide) (rfl) (rfl) (fun K hK=>?_) (fun K hK=>?_)
      ·
       refine BE 4 rfl rfl 3 1 [.int .i64 x38] hl d3 rfl rfl (by decide) (by kernel_rfl) (by rfl) (by rfl) rfl (by decide) fun g0 ou rh (ls:Kn 74 (A2 p q s ac ad x_v24 ae) ((tS 39 g0 1 1)::(44,.one (.c (.func m k l)))::(tI 38 x38)::(tS 52 a x_v20.length d)::(tS 51 u x_v23.length x)::(tP 45 0 1)::(Dn y x_v22 z aa x_v21 ab x_v24 r_ f g a x_v20 d)) ou) h8=>?_
       have j1:Ag c7 ([x38]:List Int) ([.int .i64 x38]:List Value):=⟨_,_,rfl,(Ac:rep c7 (x38:Int) _),rfl⟩
       refine hK _ _ h8.plOk ?_
       refine A1 [7,6,12,20,19,18,13,11,10,9,5,4,3,2,1,0] (by kernel_rfl) (by rfl) (ip g0 1 ([.int .i64 x38]:List Value) _ _ ?_)
       exact XY _ ⟨_,rfl,ls.kp,h8,hs,j1⟩
      ·
       refine AZ hl d3.plOk rfl (by decide) (by kernel_rfl) fun ov (lu:Kn 74 (A2 p q s ac ad x_v24 ae) ((tA 46 (Cl r_))::(44,.one (.c (.func m k l)))::(tI 38 x38)::(tS 52 a x_v20.length d)::(tS 51 u x_v23.length x)::(tP 45 0 1)::(Dn y x_v22 z aa x_v21 ab x_v24 r_ f g a x_v20 d)) ov)=>hK _ _ d3.plOk ?_
       refine A1 [6,12,14,20,19,18,13,11,10,9,5,4,3,2,1,0] (by kernel_rfl) (by rfl) (f8 _ _ ?_)
       exact XY _ ⟨_,rfl,lu.kp,d3,hs⟩
     refine Bb (fun W=>∀ a' w',(∃ (gl:Array Value)(c8:Ae),a' = ⟨gl,[]⟩∧Kn 74 (A2 p q s ac ad x_v24 ae) ((tA 46 (Cl r_))::(tI 38 x38)::(tS 52 a x_v20.length d)::(tS 51 u x_v23.length x)::(tP 43 1 0)::(Dn y x_v22 z aa x_v21 ab x_v24 r_ f g a x_v20 d)) gl∧Ah ⟨w,h,A4⟩ c8 (A2 p q s ac ad x_v24 ae) (C8 af r_ ag f g ah ai m k l aa x_v21 ab y x_v22 z u x_v23 x x30) (KS a x_v20 d am ax aa x_v21 ab al y x_v22 z ap u x_v23 x aq) w'∧Ae.le ak c8)→W (A2 p q s ac ad x_v24 ae) (C8 af r_ ag f g ah ai m k l aa x_v21 ab y x_v22 z u x_v23 x x30) [6,14,20,19,18,13,11,10,9,5,4,3,2,1,0] a' w') ?_ (fun iu=>?_)
     ·
      rintro _ ri ⟨gl,c8,rfl,hn,d4,ht⟩
      refine Dy 7 12 rfl rfl (by kernel_rfl) (by decide) (rfl) (rfl) (fun K hK=>?_) (fun K hK=>?_)
      ·
       refine BE 4 rfl rfl 3 1 [.int .i64 x38] hn d4 rfl rfl (by decide) (by kernel_rfl) (by rfl) (by rfl) rfl (by decide) fun g1 ow rj (lv:Kn 74 (A2 p q s ac ad x_v24 ae) ((tS 39 g1 1 1)::(tA 46 (Cl r_))::(tI 38 x38)::(tS 52 a x_v20.length d)::(tS 51 u x_v23.length x)::(tP 43 1 0)::(Dn y x_v22 z aa x_v21 ab x_v24 r_ f g a x_v20 d)) ow) h9=>?_
       have j3:Ag c8 ([x38]:List Int) ([.int .i64 x38]:List Value):=⟨_,_,rfl,(Ac:rep c8 (x38:Int) _),rfl⟩
       refine hK _ _ h9.plOk ?_
       refine A1 [7,6,14,20,19,18,13,11,10,9,5,4,3,2,1,0] (by kernel_rfl) (by rfl) (iq g1 1 ([.int .i64 x38]:List Value) _ _ ?_)
       exact XY _ ⟨_,rfl,lv.kp,h9,ht,j3⟩
      ·
       refine AZ hn d4.plOk rfl (by decide) (by kernel_rfl) fun ox (lw:Kn 74 (A2 p q s ac ad x_v24 ae) ((44,.one (.c (.func m k l)))::(tA 46 (Cl r_))::(tI 38 x38)::(tS 52 a x_v20.length d)::(tS 51 u x_v23.length x)::(tP 43 1 0)::(Dn y x_v22 z aa x_v21 ab x_v24 r_ f g a x_v20 d)) ox)=>hK _ _ d4.plOk ?_
       refine A1 [6,12,14,20,19,18,13,11,10,9,5,4,3,2,1,0] (by kernel_rfl) (by rfl) (f8 _ _ ?_)
       exact XY _ ⟨_,rfl,lw.kp,d4,ht⟩
     refine Bb (fun W=>∀ a' w',(∃ (gm:Array Value)(dt:Ae),a' = ⟨gm,[]⟩∧Kn 74 (A2 p q s ac ad x_v24 ae) ((tA 46 (Cl r_))::(44,.one (.c (.func m k l)))::(tS 52 a x_v20.length d)::(tS 51 u x_v23.length x)::(tS 42 y x_v22.length z)::(tA 37 (Kh x30))::(35,.one (.c (.func m k l)))::(tS 33 aa x_v21.length ab)::(Ca x_v24 r_ f g a x_v20 d)) gm∧Ah ⟨w,h,A4⟩ dt (A2 p q s ac ad x_v24 ae) (C8 af r_ ag f g ah ai m k l aa x_v21 ab y x_v22 z u x_v23 x x30) (KS a x_v20 d am ax aa x_v21 ab al y x_v22 z ap u x_v23 x aq) w'∧Ae.le ak dt)→W (A2 p q s ac ad x_v24 ae) (C8 af r_ ag f g ah ai m k l aa x_v21 ab y x_v22 z u x_v23 x x30) [12,14,20,19,18,13,11,10,9,5,4,3,2,1,0] a' w') ?_ (fun iv=>?_)
     ·
      rintro _ rk ⟨gm,dt,rfl,lx,ia,hu⟩
      replace aw:=aw.mono hu
      refine Dl 6 fun K hK=>?_
      refine Dq (.func m k l) [.agg (Kh x30)] _ lx ia rfl rfl (by decide) (by rfl) (by rfl) rfl (aw _ _ (Ae.le_refl _) ia.has x30.tm _ ((Ab Ac Ac):rep dt x30.tm _) _ ex38) fun qm pr rl jc m9 ib=>?_
      obtain rfl:=jc
      refine⟨.one (.c (.int .i64 x38)),rfl,fun oy (ly:Kn 74 (A2 p q s ac ad x_v24 ae) ((tI 38 x38)::(tA 46 (Cl r_))::(44,.one (.c (.func m k l)))::(tS 52 a x_v20.length d)::(tS 51 u x_v23.length x)::(tS 42 y x_v22.length z)::(tA 37 (Kh x30))::(35,.one (.c (.func m k l)))::(tS 33 aa x_v21.length ab)::(Ca x_v24 r_ f g a x_v20 d)) oy)=>hK _ _ ib.plOk ?_⟩
      refine A1 [6,12,14,20,19,18,13,11,10,9,5,4,3,2,1,0] (by kernel_rfl) (by rfl) (f8 _ _ ?_)
      exact XY _ ⟨_,rfl,ly.kp,ib,XU hu m9⟩
     refine GR 6 12 14 rfl rfl rfl (by kernel_rfl) (by decide) (rfl) (rfl) (rfl) (fun K hK=>?_) (fun K hK=>?_) (fun K hK=>?_)
     ·
      refine Dq (.func m k l) [.agg (Kh x30)] _ e9 a0 rfl rfl (by decide) (by rfl) (by rfl) rfl (aw _ _ (Ae.le_refl _) a0.has x30.tm _ ((Ab Ac Ac):rep ak x30.tm _) _ ex38) fun qn ew rm jd ca bs=>?_
      replace a5:=a5.mono ca
      obtain rfl:=jd
      refine⟨.one (.c (.int .i64 x38)),rfl,fun oz (fa:Kn 74 (A2 p q s ac ad x_v24 ae) ((tI 38 x38)::(Ea a x_v20 d u x_v23 x y x_v22 z x30 m k l aa x_v21 ab x_v24 r_ f g)) oz)=>hK _ _ bs.plOk ?_⟩
      refine GR 7 12 14 rfl rfl rfl (by kernel_rfl) (by decide) (rfl) (rfl) (rfl) (fun K hK=>?_) (fun K hK=>?_) (fun K hK=>?_)
      ·
       refine BE 4 rfl rfl 3 1 [.int .i64 x38] fa bs rfl rfl (by decide) (by kernel_rfl) (by rfl) (by rfl) rfl (by decide) fun bp o0 rn (fb:Kn 74 (A2 p q s ac ad x_v24 ae) ((tS 39 bp 1 1)::(tI 38 x38)::(Ea a x_v20 d u x_v23 x y x_v22 z x30 m k l aa x_v21 ab x_v24 r_ f g)) o0) bm=>?_
       have b8:Ag ew ([x38]:List Int) ([.int .i64 x38]:List Value):=⟨_,_,rfl,(Ac:rep ew (x38:Int) _),rfl⟩
       refine hK _ _ bm.plOk ?_
       refine GR 8 12 14 rfl rfl rfl (by kernel_rfl) (by decide) (rfl) (rfl) (rfl) (fun K hK=>?_) (fun K hK=>?_) (fun K hK=>?_)
       ·
        obtain⟨f4,m4⟩:=AU ex40
        refine AE 1 8 1 _ (x40.length) _ ([.int .i64 x38]:List Value) fb bm rfl rfl (by decide) rfl (by rfl) (by kernel_rfl) (by rfl) (by rfl) (Ag.len b8) (bm.rowCell (i:=4) rfl) b8.one (by rw [f4]; simp <;> omega) (by rw [f4]; exact m4) (by decide) fun ch ci i8 o1 ro kd (lz:Kn 74 (A2 p q s ac ad x_v24 ae) ((tS 40 ch x40.length ci)::(tS 39 bp 1 1)::(tI 38 x38)::(Ea a x_v20 d u x_v23 x y x_v22 z x30 m k l aa x_v21 ab x_v24 r_ f g)) o1) bt=>?_
        have he:Ag ew x40 (al++([.int .i64 x38]:List Value)):=by rw [f4]; exact Ag.append a5 b8
        obtain rfl:i8=0:=Nat.le_zero.1 kd
        refine hK _ _ bt.plOk ?_
        refine Dr [24] [24,8,7,6,20,19,18,13,11,10,9,5,4,3,2,1,0] ((tP 56 2 0)::(tS 40 ch x40.length ci)::(tS 52 a x_v20.length d)::(tS 51 u x_v23.length x)::(tP 45 0 1)::(tP 43 1 0)::(tS 42 y x_v22.length z)::(Ca x_v24 r_ f g a x_v20 d)) lz bt fun qc ho=>?_
        refine Dy 12 14 rfl rfl (by kernel_rfl) (by decide) (rfl) (rfl) (fun K hK=>?_) (fun K hK=>?_)
        ·
         refine AZ ho bt.plOk rfl (by decide) (by kernel_rfl) fun o2 (l0:Kn 74 (A2 p q s ac ad x_v24 ae) ((44,.one (.c (.func m k l)))::(tP 56 2 0)::(tS 40 ch x40.length ci)::(tS 52 a x_v20.length d)::(tS 51 u x_v23.length x)::(tP 45 0 1)::(tP 43 1 0)::(tS 42 y x_v22.length z)::(Ca x_v24 r_ f g a x_v20 d)) o2)=>hK _ _ bt.plOk ?_
         refine A1 [24,8,7,6,12,20,19,18,13,11,10,9,5,4,3,2,1,0] (by kernel_rfl) (by rfl) (im ch ci (al++([.int .i64 x38]:List Value)) bp 1 ([.int .i64 x38]:List Value) _ _ ?_)
         exact XY _ ⟨_,rfl,l0.kp,bt,ca,he,b8⟩
        ·
         refine AZ ho bt.plOk rfl (by decide) (by kernel_rfl) fun o3 (l1:Kn 74 (A2 p q s ac ad x_v24 ae) ((tA 46 (Cl r_))::(tP 56 2 0)::(tS 40 ch x40.length ci)::(tS 52 a x_v20.length d)::(tS 51 u x_v23.length x)::(tP 45 0 1)::(tP 43 1 0)::(tS 42 y x_v22.length z)::(Ca x_v24 r_ f g a x_v20 d)) o3)=>hK _ _ bt.plOk ?_
         refine A1 [24,8,7,6,14,20,19,18,13,11,10,9,5,4,3,2,1,0] (by kernel_rfl) (by rfl) (io ch ci (al++([.int .i64 x38]:List Value)) bp 1 ([.int .i64 x38]:List Value) _ _ ?_)
         exact XY _ ⟨_,rfl,l1.kp,bt,ca,he,b8⟩
       ·
        refine AZ fb bm.plOk rfl (by decide) (by kernel_rfl) fun o4 (l2:Kn 74 (A2 p q s ac ad x_v24 ae) ((44,.one (.c (.func m k l)))::(tS 39 bp 1 1)::(tI 38 x38)::(Ea a x_v20 d u x_v23 x y x_v22 z x30 m k l aa x_v21 ab x_v24 r_ f g)) o4)=>hK _ _ bm.plOk ?_
        refine A1 [7,6,12,20,19,18,13,11,10,9,5,4,3,2,1,0] (by kernel_rfl) (by rfl) (ip bp 1 ([.int .i64 x38]:List Value) _ _ ?_)
        exact XY _ ⟨_,rfl,l2.kp,bm,ca,b8⟩
       ·
        refine AZ fb bm.plOk rfl (by decide) (by kernel_rfl) fun o5 (l3:Kn 74 (A2 p q s ac ad x_v24 ae) ((tA 46 (Cl r_))::(tS 39 bp 1 1)::(tI 38 x38)::(Ea a x_v20 d u x_v23 x y x_v22 z x30 m k l aa x_v21 ab x_v24 r_ f g)) o5)=>hK _ _ bm.plOk ?_
        refine A1 [7,6,14,20,19,18,13,11,10,9,5,4,3,2,1,0] (by kernel_rfl) (by rfl) (iq bp 1 ([.int .i64 x38]:List Value) _ _ ?_)
        exact XY _ ⟨_,rfl,l3.kp,bm,ca,b8⟩
      ·
       refine AZ fa bs.plOk rfl (by decide) (by kernel_rfl) fun o6 (l4:Kn 74 (A2 p q s ac ad x_v24 ae) ((44,.one (.c (.func m k l)))::(tI 38 x38)::(Ea a x_v20 d u x_v23 x y x_v22 z x30 m k l aa x_v21 ab x_v24 r_ f g)) o6)=>hK _ _ bs.plOk ?_
       refine A1 [6,12,20,19,18,13,11,10,9,5,4,3,2,1,0] (by kernel_rfl) (by rfl) (ir _ _ ?_)
       exact XY _ ⟨_,rfl,l4.kp,bs,ca⟩
      ·
       refine AZ fa bs.plOk rfl (by decide) (by kernel_rfl) fun o7 (l5:Kn 74 (A2 p q s ac ad x_v24 ae) ((tA 46 (Cl r_))::(tI 38 x38)::(Ea a x_v20 d u x_v23 x y x_v22 z x30 m k l aa x_v21 ab x_v24 r_ f g)) o7)=>hK _ _ bs.plOk ?_
       refine A1 [6,14,20,19,18,13,11,10,9,5,4,3,2,1,0] (by kernel_rfl) (by rfl) (iu _ _ ?_)
       exact XY _ ⟨_,rfl,l5.kp,bs,ca⟩
     ·
      refine AZ e9 a0.plOk rfl (by decide) (by kernel_rfl) fun o8 (hp:Kn 74 (A2 p q s ac ad x_v24 ae) ((44,.one (.c (.func m k l)))::(Ea a x_v20 d u x_v23 x y x_v22 z x30 m k l aa x_v21 ab x_v24 r_ f g)) o8)=>hK _ _ a0.plOk ?_
      refine Dy 6 14 rfl rfl (by kernel_rfl) (by decide) (rfl) (rfl) (fun K hK=>?_) (fun K hK=>?_)
      ·
       refine Dq (.func m k l) [.agg (Kh x30)] _ hp a0 rfl rfl (by decide) (by rfl) (by rfl) rfl (aw _ _ (Ae.le_refl _) a0.has x30.tm _ ((Ab Ac Ac):rep ak x30.tm _) _ ex38) fun qo ps rp je na ic=>?_
       obtain rfl:=je
       refine⟨.one (.c (.int .i64 x38)),rfl,fun o9 (l6:Kn 74 (A2 p q s ac ad x_v24 ae) ((tI 38 x38)::(44,.one (.c (.func m k l)))::(Ea a x_v20 d u x_v23 x y x_v22 z x30 m k l aa x_v21 ab x_v24 r_ f g)) o9)=>hK _ _ ic.plOk ?_⟩
       refine A1 [6,12,20,19,18,13,11,10,9,5,4,3,2,1,0] (by kernel_rfl) (by rfl) (ir _ _ ?_)
       exact XY _ ⟨_,rfl,l6.kp,ic,na⟩
      ·
       refine AZ hp a0.plOk rfl (by decide) (by kernel_rfl) fun pa (l7:Kn 74 (A2 p q s ac ad x_v24 ae) ((tA 46 (Cl r_))::(44,.one (.c (.func m k l)))::(Ea a x_v20 d u x_v23 x y x_v22 z x30 m k l aa x_v21 ab x_v24 r_ f g)) pa)=>hK _ _ a0.plOk ?_
       refine A1 [12,14,20,19,18,13,11,10,9,5,4,3,2,1,0] (by kernel_rfl) (by rfl) (iv _ _ ?_)
       exact XY _ ⟨_,rfl,l7.kp,a0,Ae.le_refl _⟩
     ·
      refine AZ e9 a0.plOk rfl (by decide) (by kernel_rfl) fun pb (hq:Kn 74 (A2 p q s ac ad x_v24 ae) ((tA 46 (Cl r_))::(Ea a x_v20 d u x_v23 x y x_v22 z x30 m k l aa x_v21 ab x_v24 r_ f g)) pb)=>hK _ _ a0.plOk ?_
      refine Dy 6 12 rfl rfl (by kernel_rfl) (by decide) (rfl) (rfl) (fun K hK=>?_) (fun K hK=>?_)
      ·
       refine Dq (.func m k l) [.agg (Kh x30)] _ hq a0 rfl rfl (by decide) (by rfl) (by rfl) rfl (aw _ _ (Ae.le_refl _) a0.has x30.tm _ ((Ab Ac Ac):rep ak x30.tm _) _ ex38) fun qp pt rq jf nb ie=>?_
       obtain rfl:=jf
       refine⟨.one (.c (.int .i64 x38)),rfl,fun pc (l8:Kn 74 (A2 p q s ac ad x_v24 ae) ((tI 38 x38)::(tA 46 (Cl r_))::(Ea a x_v20 d u x_v23 x y x_v22 z x30 m k l aa x_v21 ab x_v24 r_ f g)) pc)=>hK _ _ ie.plOk ?_⟩
       refine A1 [6,14,20,19,18,13,11,10,9,5,4,3,2,1,0] (by kernel_rfl) (by rfl) (iu _ _ ?_)
       exact XY _ ⟨_,rfl,l8.kp,ie,nb⟩
      ·
       refine AZ hq a0.plOk rfl (by decide) (by kernel_rfl) fun pd (l9:Kn 74 (A2 p q s ac ad x_v24 ae) ((44,.one (.c (.func m k l)))::(tA 46 (Cl r_))::(Ea a x_v20 d u x_v23 x y x_v22 z x30 m k l aa x_v21 ab x_v24 r_ f g)) pd)=>hK _ _ a0.plOk ?_
       refine A1 [12,14,20,19,18,13,11,10,9,5,4,3,2,1,0] (by kernel_rfl) (by rfl) (iv _ _ ?_)
       exact XY _ ⟨_,rfl,l9.kp,a0,Ae.le_refl _⟩
    ·
     rw [ez,XV] at ar
     refine wp_exit ?_
     obtain rfl:=XZ ar
     exact XY a ⟨d,am,ax,aa,ab,al,y,z,ap,u,x,aq,_,_,rfl,e8.kp,fj,ck,b7,a5,du,dv⟩
  ·
   rintro _ rt ⟨cp,cw,d8,es,a1,a3,cm,a2,a4,cn,dq,ds,d9,ga,bl,rfl,ma,ig,d0,jo,dc,dd,jp⟩
   replace bd:=bd.mono d0
   replace be:=be.mono d0
   replace bf:=bf.mono d0
   replace aw:=aw.mono d0
   refine XT (XT (Aa (Rk 0 4 [tI 63 0,tI 62 ((r_.spares.length:Nat):Int),tS 5 cp aj.1.length cw,tP 4 2 0] ma ig fun qd mc=>?_)))
   refine wf ?_
   obtain⟨bg,ha,H⟩:=Aw H
   refine Az (fun a' w'=>∃ (g2:Option Addr)(g7:Nat)(gr:List Value)(hb:Nat)(b1:Option Addr)(b6:Nat)(gs:List Value)(gp:Array Value)(da:Ae),a' = ⟨gp,[]⟩∧Kn 74 [(p,0),(q,0),(s,0)] [tP 4 2 0] gp∧Ah ⟨w,h,A4⟩ da [(p,0),(q,0),(s,0)] [⟨Di af r_ ag f g ah ai,some 43⟩,⟨[.func m k l],some 132⟩,⟨[.slice a1 aj.2.1.length a3,.slice a2 aj.2.2.1.length a4,.slice b1 bg.2.length b6],some 76⟩] [⟨g2,bg.1.length,g7,3,1,gr,hb⟩,⟨a1,aj.2.1.length,a3,3,1,cm,0⟩,⟨a2,aj.2.2.1.length,a4,3,1,cn,0⟩,⟨b1,bg.2.length,b6,31,1,gs,0⟩] w'∧Ae.le bl da∧Ag da bg.1 gr∧Ag da bg.2 gs) ?_ ?_
   ·
    refine wp_block ?_
    refine Ar (fun n7 a' w'=>∃ (x_v30:List Int)(x_v31:List (List Int))(x_v32:Int)(an:Option Addr)(ao:Nat)(bw:List Value)(et:Nat)(ba:Option Addr)(bb:Nat)(cf:List Value)(gq:Array Value)(db:Ae),a' = ⟨gq,[]⟩∧Kn 74 [(p,0),(q,0),(s,0)] (GY x_v32 r_ an x_v30 ao) gq∧Ah ⟨w,h,A4⟩ db [(p,0),(q,0),(s,0)] [⟨Di af r_ ag f g ah ai,some 43⟩,⟨[.func m k l],some 132⟩,⟨[.slice a1 aj.2.1.length a3,.slice a2 aj.2.2.1.length a4,.slice ba x_v31.length bb],some 76⟩] [⟨an,x_v30.length,ao,3,1,bw,et⟩,⟨a1,aj.2.1.length,a3,3,1,cm,0⟩,⟨a2,aj.2.2.1.length,a4,3,1,cn,0⟩,⟨ba,x_v31.length,bb,31,1,cf,0⟩] w'∧Ae.le bl db∧Ag db x_v30 bw∧Ag db x_v31 cf∧B5 n7 r_ x_v30 x_v31 x_v32=some bg) n ?_ ?_
    ·
     exact XY aj.1 ⟨aj.2.2.2,0,cp,cw,d8,es,dq,ds,d9,_,_,rfl,mc.kp,ig,Ae.le_refl _,jo,jp,ha⟩
    ·
     rintro d7 _ po ⟨x_v30,x_v31,x_v32,an,ao,bw,et,ba,bb,cf,gq,db,rfl,md,cb,br,b9,dy,bc⟩
     clear ha
     obtain _ | d7:=d7
     ·
      rw [B5] at bc; cases bc
     rw [B5] at bc
     replace bd:=bd.mono br
     replace be:=be.mono br
     replace bf:=bf.mono br
     replace aw:=aw.mono br
     replace dc:=dc.mono br
     replace dd:=dd.mono br
     refine XT (Aa (Rk 0 1 ((tB 64 (decide (x_v32<((r_.spares.length:Nat):Int))))::(GY x_v32 r_ an x_v30 ao)) md cb fun qe fc=>?_))
     refine wf (XT (wC (decide (x_v32<((r_.spares.length:Nat):Int))) fc (fun e0=>?_) (fun e0=>?_)))
     ·
      rw [e0,XW] at bc
      refine wp_skip (XT (wp_block (Am (by kernel_rfl) ?_)))
      replace cb:=cb.drew
      refine An [] [(p,0),(q,0),(s,0)] [⟨Di af r_ ag f g ah ai,some 43⟩,⟨[.func m k l],some 132⟩,⟨[.slice a1 aj.2.1.length a3,.slice a2 aj.2.2.1.length a4,.slice ba x_v31.length bb],some 76⟩] ?_
      refine Dr [0,1,2] [2,1,0] ((tS 67 an x_v30.length ao)::(tS 66 ba x_v31.length bb)::(GY x_v32 r_ an x_v30 ao)) fc cb fun qf me=>?_
      obtain⟨hd,fg,n0,d5⟩:=cb.settle (i:=0) rfl
      replace b9:=b9.mono fg
      replace d5:Ah ⟨w,h,A4⟩ hd [(p,0),(q,0),(s,0)] [⟨Di af r_ ag f g ah ai,some 43⟩,⟨[.func m k l],some 132⟩,⟨[.slice a1 aj.2.1.length a3,.slice a2 aj.2.2.1.length a4,.slice ba x_v31.length bb],some 76⟩] [⟨an,x_v30.length,ao,3,1,bw,(bw:List Value).length⟩,⟨a1,aj.2.1.length,a3,3,1,cm,0⟩,⟨a2,aj.2.2.1.length,a4,3,1,cn,0⟩,⟨ba,x_v31.length,bb,31,1,cf,0⟩] (World.drew po):=d5
      have nx:A8 hd an ao x_v30:=⟨_,b9,n0,cb.rowCap (i:=0) rfl⟩
      obtain⟨x68,ex68,bc⟩:=Aw bc
      refine Dl 3 fun K hK=>?_
      refine wc [.c (.slice an x_v30.length ao)] me d5 (C4 d7 d5.has x_v30 nx ex68) fun qq ex ru jg fh ih=>?_
      replace b9:=b9.mono fh
      replace dy:=dy.mono (XU fg fh)
      obtain⟨bi,bk,rfl,ny⟩:=jg
      refine⟨.one (.c (.slice bi x68.length bk)),rfl,fun pe (mf:Kn 74 [(p,0),(q,0),(s,0)] ((tS 68 bi x68.length bk)::(tS 67 an x_v30.length ao)::(tS 66 ba x_v31.length bb)::(GY x_v32 r_ an x_v30 ao)) pe)=>hK _ _ ih.plOk ?_⟩
      refine Dl 4 fun K hK=>?_
      refine wS 31 1 [.slice bi x68.length bk] mf ih fun g3 pf rv (mg:Kn 74 [(p,0),(q,0),(s,0)] ((tS 69 g3 1 1)::(tS 68 bi x68.length bk)::(tS 67 an x_v30.length ao)::(tS 66 ba x_v31.length bb)::(GY x_v32 r_ an x_v30 ao)) pf) fv=>?_
      have e6:Ag ex ([x68]:List (List Int)) ([.slice bi x68.length bk]:List Value):=⟨_,_,rfl,((Ad ny):rep ex (x68:List Int) _),rfl⟩
      refine hK _ _ fv.plOk ?_
      obtain⟨x70,ex70,bc⟩:=Aw bc
      obtain⟨f5,m5⟩:=AU ex70
      refine Dl 5 fun K hK=>?_
      refine AE 3 24 1 _ (x70.length) _ ([.slice bi x68.length bk]:List Value) mg fv rfl rfl (by decide) rfl (by rfl) (by kernel_rfl) (by rfl) (by rfl) (Ag.len e6) (fv.rowCell (i:=4) rfl) e6.one (by rw [f5]; simp <;> omega) (by rw [f5]; exact m5) (by decide) fun cu c0 i9 pg rx ke (mh:Kn 74 [(p,0),(q,0),(s,0)] ((tS 70 cu x70.length c0)::(tS 69 g3 1 1)::(tS 68 bi x68.length bk)::(tS 67 an x_v30.length ao)::(tS 66 ba x_v31.length bb)::(GY x_v32 r_ an x_v30 ao)) pg) fw=>?_
      have j5:Ag ex x70 (cf++([.slice bi x68.length bk]:List Value)):=by rw [f5]; exact Ag.append dy e6
      obtain rfl:i9=0:=Nat.le_zero.1 ke
      refine hK _ _ fw.plOk ?_
      refine Dr [6] (dn 6) ((tP 71 2 2)::(tS 70 cu x70.length c0)::(GY x_v32 r_ an x_v30 ao)) mh fw fun ph mi=>?_
      refine Cv 7 rfl (by kernel_rfl) (by decide) (rfl) (by kernel_rfl) fun K hK=>?_
      refine EY 2 2 (.c (.slice cu x70.length c0)) [.slice a1 aj.2.1.length a3,.slice a2 aj.2.2.1.length a4,.slice cu x70.length c0] mi fw fun ry mj ii=>hK _ _ ?_
      have mk:Kn 74 [(p,0),(q,0),(s,0)] (GY x_v32 r_ an x_v30 ao) ph:=mj.kp
      refine EI (by kernel_rfl) (Aa (Rk 0 2 [tI 63 (IntKind.i64.wrap (x_v32+1)),tI 62 ((r_.spares.length:Nat):Int),tS 5 an x_v30.length ao,tP 4 2 0] mk ii fun qh ml=>?_))
      refine wf ?_
      exact XY d7 ⟨Nat.lt_succ_self _,XY x_v30 ⟨x70,IntKind.i64.wrap (x_v32+1),an,ao,bw,(bw:List Value).length,cu,c0,cf++([.slice bi x68.length bk]:List Value),_,_,rfl,ml.kp,ii.cutRw 4,XU br (XU fg fh),b9,j5,bc⟩⟩
     ·
      rw [e0,XV] at bc
      refine wp_exit ?_
      obtain rfl:=XZ bc
      exact XY an ⟨ao,bw,et,ba,bb,cf,_,_,rfl,fc.kp,cb,br,b9,dy⟩
   ·
    rintro _ rz ⟨g2,g7,gr,hb,b1,b6,gs,gp,da,rfl,mm,ij,hv,py,j4⟩
    replace dc:=dc.mono hv
    replace dd:=dd.mono hv
    refine XT (Aa (Rk 0 1 [tA 73 [.slice a1 aj.2.1.length a3,.slice a2 aj.2.2.1.length a4,.slice b1 bg.2.length b6],tP 4 2 0] mm ij fun pi mn=>?_))
    refine wl fun K hK=>?_
    refine EY 2 0 (.agg [.slice a1 aj.2.1.length a3,.slice a2 aj.2.2.1.length a4,.slice b1 bg.2.length b6]) [.slice a1 aj.2.1.length a3,.slice a2 aj.2.2.1.length a4,.slice b1 bg.2.length b6] mn ij fun r0 mo nn=>hK _ _ ?_
    have mp:Kn 74 [(p,0),(q,0),(s,0)] [tP 4 2 0] pi:=mo.kp
    refine wf (wp_ret ?_)
    obtain rfl:=XZ H
    exact S7 (.one (.agg [.slice a1 aj.2.1.length a3,.slice a2 aj.2.2.1.length a4,.slice b1 bg.2.length b6])) [1,2,3] mp nn (by kernel_rfl) (by kernel_rfl) (by kernel_rfl) ⟨_,_,_,_,_,_,_,_,_,rfl,rfl,dc,dd,j4⟩
theorem F4 (n:Nat) {h:Ae} {w:World} (hh:CU h w) (r_:Af) {cs_r_:List Value} (hx_r_:rep h r_ cs_r_) (e:He) {cs_e:List Value} (hx_e:rep h e cs_e) {r:Ay} (H:Bs n r_ e=some r) :
    Calls Try.prog 67 #[.agg cs_r_.toArray,.agg cs_e.toArray] w (Da (fun h v=>∃ cs,v=.agg cs.toArray∧rep h r cs) h w) :=
  (A6 n hh r_ hx_r_ e hx_e H).mono fun en w' ⟨v,h0,rs,he,hm,a0,c0,x0,a1,c1,x1,a2,c2,x2,hv,hrs,k0,k1,k2⟩=>by
    subst hv hrs
    have n0:=hm.rowCap (i:=0) rfl
    have n1:=hm.rowCap (i:=1) rfl
    have n2:=hm.rowCap (i:=2) rfl
    obtain⟨h1,l1,s0,hm⟩:=hm.settle (i:=0) rfl
    obtain⟨h2,l2,s1,hm⟩:=hm.settle (i:=1) rfl
    obtain⟨h3,l3,s2,hm⟩:=hm.settle (i:=2) rfl
    have hr:rep h3 r [.slice a0 r.tm.length c0,.slice a1 r.turns.length c1,.slice a2 r.legs.length c2] :=
      Ab (Ad ⟨x0,k0.mono (XU l1 (XU l2 l3)),s0.mono (XU l2 l3),n0⟩) (Ab (Ad ⟨x1,k1.mono (XU l1 (XU l2 l3)),s1.mono l3,n1⟩) (Ad ⟨x2,k2.mono (XU l1 (XU l2 l3)),s2,n2⟩))
    subst he
    exact JX (F:=⟨w,h,A4⟩) hm ⟨_,rfl,hr⟩
end Go.Proofs.Ytokchpjijlebiaa
