/- Each call computes its plain function. -/
import Derived.Test.YtokchpjijlebiaaProg
import Derived.Test.YtokchpjijlebiaaLQP0
set_option linter.all false
namespace Go.Proofs.Ytokchpjijlebiaa
open Go Go.RowKit
open Rep (rep)
open KRep (kv)
open VRep (rv)
set_option maxRecDepth 100000 in
set_option maxHeartbeats 4000000 in
theorem CC (n:Nat) {h:Ad} {w:World} (hh:Dk h w) (s:List Int) {a_s:Option Addr} {c_s:Nat} (hr_s:A0 h a_s c_s s) {r:List Int} (H:Bp n s=some r) :
  Calls Try.prog 87 #[.slice a_s s.length c_s] w (Dq (fun h v=>∃ a c,v=.slice a r.length c∧A0 h a c r) h w):=by
 refine enter 8 [.c (.slice a_s s.length c_s)] Try.func87 rfl rfl rfl rfl fun t hk=>?_
 have hm:=Ah.begin h w hh
 unfold Bp at H
 refine XT (Aa (Rk 0 1 [tS 0 a_s s.length c_s] hk hm fun ao ac=>?_))
 refine wf (XT (XT (Aa (Rk 0 2 [tB 4 a_s.isNone,tS 0 a_s s.length c_s] ac hm fun aq k=>?_))))
 refine wf (wC (a_s.isNone) k (fun u=>?_) (fun u=>?_))
 ·
  obtain rfl:=A0.isNil hr_s (by decide) u
  replace H:some ([]:List Int)=some r:=by simpa [IU] using H
  refine XT (Aa (Rk 0 1 [tS 2 none 0 0] k hm fun au af=>?_))
  refine wf (wp_ret ?_)
  obtain rfl:=XZ H
  exact rt (.one (.c (.slice none 0 0))) af hm ⟨_,_,rfl,A0.nil⟩
 ·
  refine wp_skip (XT (Aa (wl fun K hK=>?_)))
  refine wS 3 1 [] k hm fun g am av (aa:Kn 8 [] [tS 5 g 0 0,tB 4 a_s.isNone,tS 0 a_s s.length c_s] am) l=>?_
  have y:Ag h ([]:List Int) ([]:List Value):=Ag.nil
  refine hK _ _ ?_
  refine Rk 1 1 [tS 6 a_s s.length c_s,tS 5 g 0 0] aa l fun ap ab=>?_
  obtain⟨f,e,ak,_⟩:=id hr_s
  obtain⟨x7,ex7,H⟩:=Ao H
  obtain⟨p,ag⟩:=AV ex7
  refine wl fun K hK=>?_
  refine AA 0 8 s.length _ (x7.length) _ f ab l rfl rfl (by decide) rfl (by rfl) (by kernel_rfl) (by rfl) (by rfl) (Ag.len e) (ak.cell l.has e.one) e.one (by rw [p]; simp <;> omega) (by rw [p]; exact ag) (by decide) fun b d x al an z (ad:Kn 8 [] [tS 7 b x7.length d,tS 6 a_s s.length c_s,tS 5 g 0 0] al) m=>?_
  have j:Ag h x7 (([]:List Value)++f):=by rw [p]; exact Ag.append y e
  obtain rfl:x=0:=Nat.le_zero.1 z
  refine hK _ _ ?_
  refine Rk 3 1 [tS 2 b x7.length d] ad m fun ar ae=>?_
  refine wf (wp_ret ?_)
  obtain⟨q,ah,aj,o⟩:=m.settle (i:=0) rfl
  replace j:=j.mono ah
  replace o:Ah ⟨w,h,A5⟩ q [] [] [⟨b,x7.length,d,3,1,([]:List Value)++f,((([]:List Value)++f):List Value).length⟩] an:=o
  have ai:A0 q b d x7:=⟨_,j,aj,m.rowCap (i:=0) rfl⟩
  obtain rfl:=XZ H
  exact rt (.one (.c (.slice b x7.length d))) ae o ⟨_,_,rfl,ai⟩
set_option maxRecDepth 100000 in
set_option maxHeartbeats 4000000 in
theorem GM (n:Nat) {h:Ad} {w:World} (hh:Dk h w) (s:List Bool) {a_s:Option Addr} {c_s:Nat} (hr_s:A0 h a_s c_s s) {r:List Bool} (H:Ci n s=some r) :
  Calls Try.prog 88 #[.slice a_s s.length c_s] w (Dq (fun h v=>∃ a c,v=.slice a r.length c∧A0 h a c r) h w):=by
 refine enter 8 [.c (.slice a_s s.length c_s)] Try.func88 rfl rfl rfl rfl fun t hk=>?_
 have hm:=Ah.begin h w hh
 unfold Ci at H
 refine XT (Aa (Rk 0 1 [tS 0 a_s s.length c_s] hk hm fun ao ac=>?_))
 refine wf (XT (XT (Aa (Rk 0 2 [tB 4 a_s.isNone,tS 0 a_s s.length c_s] ac hm fun aq k=>?_))))
 refine wf (wC (a_s.isNone) k (fun u=>?_) (fun u=>?_))
 ·
  obtain rfl:=A0.isNil hr_s (by decide) u
  replace H:some ([]:List Bool)=some r:=by simpa [IU] using H
  refine XT (Aa (Rk 0 1 [tS 2 none 0 0] k hm fun au af=>?_))
  refine wf (wp_ret ?_)
  obtain rfl:=XZ H
  exact rt (.one (.c (.slice none 0 0))) af hm ⟨_,_,rfl,A0.nil⟩
 ·
  refine wp_skip (XT (Aa (wl fun K hK=>?_)))
  refine wS 4 1 [] k hm fun g am av (aa:Kn 8 [] [tS 5 g 0 0,tB 4 a_s.isNone,tS 0 a_s s.length c_s] am) l=>?_
  have y:Ag h ([]:List Bool) ([]:List Value):=Ag.nil
  refine hK _ _ ?_
  refine Rk 1 1 [tS 6 a_s s.length c_s,tS 5 g 0 0] aa l fun ap ab=>?_
  obtain⟨f,e,ak,_⟩:=id hr_s
  obtain⟨x7,ex7,H⟩:=Ao H
  obtain⟨p,ag⟩:=AV ex7
  refine wl fun K hK=>?_
  refine AA 0 1 s.length _ (x7.length) _ f ab l rfl rfl (by decide) rfl (by rfl) (by kernel_rfl) (by rfl) (by rfl) (Ag.len e) (ak.cell l.has e.one) e.one (by rw [p]; simp <;> omega) (by rw [p]; exact ag) (by decide) fun b d x al an z (ad:Kn 8 [] [tS 7 b x7.length d,tS 6 a_s s.length c_s,tS 5 g 0 0] al) m=>?_
  have j:Ag h x7 (([]:List Value)++f):=by rw [p]; exact Ag.append y e
  obtain rfl:x=0:=Nat.le_zero.1 z
  refine hK _ _ ?_
  refine Rk 3 1 [tS 2 b x7.length d] ad m fun ar ae=>?_
  refine wf (wp_ret ?_)
  obtain⟨q,ah,aj,o⟩:=m.settle (i:=0) rfl
  replace j:=j.mono ah
  replace o:Ah ⟨w,h,A5⟩ q [] [] [⟨b,x7.length,d,4,1,([]:List Value)++f,((([]:List Value)++f):List Value).length⟩] an:=o
  have ai:A0 q b d x7:=⟨_,j,aj,m.rowCap (i:=0) rfl⟩
  obtain rfl:=XZ H
  exact rt (.one (.c (.slice b x7.length d))) ae o ⟨_,_,rfl,ai⟩
set_option maxRecDepth 100000 in
set_option maxHeartbeats 4000000 in
theorem Ix (n:Nat) {h:Ad} {w:World} (hh:Dk h w) (x:List Int) {a_x:Option Addr} {c_x:Nat} (hr_x:A0 h a_x c_x x) {r:Int} (H:EJ n x=some r) :
  Calls Try.prog 89 #[.slice a_x x.length c_x] w (Dq (fun h v=>v=.int .i64 r) h w):=by
 refine enter 25 [.c (.slice a_x x.length c_x)] Try.func89 rfl rfl rfl rfl fun t hk=>?_
 have hm:=Ah.begin h w hh
 unfold EJ at H
 refine XT (Aa (Rk 0 1 [tS 0 a_x x.length c_x] hk hm fun bc al=>?_))
 refine wf (XT (XT (Aa (Rk 0 3 [tB 7 (decide (((x.length:Nat):Int)<1)),tS 0 a_x x.length c_x] al hm fun bf ad=>?_))))
 refine wf (wC (decide (((x.length:Nat):Int)<1)) ad (fun m=>?_) (fun m=>?_))
 ·
  rw [m,XW] at H
  cases H
 ·
  rw [m,XV] at H
  refine wp_skip (XT (Aa (Rk 0 1 [tS 9 a_x x.length c_x,tS 0 a_x x.length c_x] ad hm fun bk ax=>?_)))
  obtain⟨x10,ex10,H⟩:=Ao H
  obtain⟨ay,a0,a4⟩:=Ai ex10
  obtain⟨d,e,a9,ag,a2,ai⟩:=hr_x.get (by decide) a4
  obtain rfl:=a2
  have s:=hm.addPlc (b:=d) (o:=e+(0:Int).toNat*1) (cs:=[.int .i64 x10]) (fun j c hj=>ai j _ (Aj hj)) rfl (by kernel_rfl) (by kernel_rfl)
  refine Bb 1 (0) rfl rfl (rfl) rfl (by decide) ax (by rfl) (by rfl) (by rfl) ag (by rfl) ay a0 (by kernel_rfl) fun a7 (ak:Kn 25 [(d,e+(0:Int).toNat*1)] [tP 10 0 0,tS 9 a_x x.length c_x,tS 0 a_x x.length c_x] a7)=>?_
  refine Rk 2 2 [tI 3 x10,tS 0 a_x x.length c_x] ak s fun bd am=>?_
  refine wf (XT (XT (Aa (Rk 0 1 [tI 4 1,tI 3 x10,tS 0 a_x x.length c_x] am s fun be an=>?_))))
  refine wf ?_
  obtain⟨g,ac,H⟩:=Ao H
  refine Aw (fun a' w'=>∃ (z:Array Value)(i:Ad),a' = ⟨z,[]⟩∧Kn 25 [(d,e+(0:Int).toNat*1)] [tI 3 g] z∧Ah ⟨w,h,A5⟩ i [(d,e+(0:Int).toNat*1)] [⟨[.int .i64 x10],none⟩] [] w'∧Ad.le h i) ?_ ?_
  ·
   refine wp_block ?_
   refine Au (fun a6 a' w'=>∃ (x_v10:Int)(x_v11:Int)(aa:Array Value)(k:Ad),a' = ⟨aa,[]⟩∧Kn 25 [(d,e+(0:Int).toNat*1)] [tI 4 x_v10,tI 3 x_v11,tS 0 a_x x.length c_x] aa∧Ah ⟨w,h,A5⟩ k [(d,e+(0:Int).toNat*1)] [⟨[.int .i64 x10],none⟩] [] w'∧Ad.le h k∧Cs a6 x x_v10 x_v11=some g) n ?_ ?_
   ·
    exact XY 1 ⟨x10,_,_,rfl,an.kp,s,Ad.le_refl _,ac⟩
   ·
    rintro y _ bm ⟨x_v10,x_v11,aa,k,rfl,ao,f,q,a⟩
    clear ac
    obtain _ | y:=y
    ·
     rw [Cs] at a; cases a
    rw [Cs] at a
    replace hr_x:=hr_x.mono q
    refine XT (XT (Aa (Rk 0 4 [tB 15 (decide (x_v10<((x.length:Nat):Int))),tI 4 x_v10,tI 3 x_v11,tS 0 a_x x.length c_x] ao f fun bg p=>?_)))
    refine wf (wC (decide (x_v10<((x.length:Nat):Int))) p (fun l=>?_) (fun l=>?_))
    ·
     rw [l,XW] at a
     refine wp_skip (XT (wp_block (Aa (Rk 0 3 [tI 20 x_v10,tS 19 a_x x.length c_x,tI 18 x_v11,tI 4 x_v10,tS 0 a_x x.length c_x] p f fun bh ap=>?_))))
     obtain⟨x21,ex21,a⟩:=Ao a
     obtain⟨az,a1,a5⟩:=Ai ex21
     obtain⟨ab,af,ba,ah,a3,aj⟩:=hr_x.get (by decide) a5
     obtain rfl:=a3
     have u:=f.addPlc (b:=ab) (o:=af+(x_v10:Int).toNat*1) (cs:=[.int .i64 x21]) (fun j c hj=>aj j _ (Aj hj)) rfl (by kernel_rfl) (by kernel_rfl)
     refine Bb 3 (x_v10) rfl rfl (rfl) rfl (by decide) ap (by rfl) (by rfl) (by rfl) ah (by rfl) az a1 (by kernel_rfl) fun a8 (aq:Kn 25 [(d,e+(0:Int).toNat*1),(ab,af+(x_v10:Int).toNat*1)] [tP 21 1 0,tI 20 x_v10,tS 19 a_x x.length c_x,tI 18 x_v11,tI 4 x_v10,tS 0 a_x x.length c_x] a8)=>?_
     refine Rk 4 3 [tI 3 (if x21>x_v11 then x21 else x_v11),tI 4 x_v10,tS 0 a_x x.length c_x] aq u fun bi ar=>?_
     refine wf (Aa (Rk 0 3 [tI 4 (IntKind.i64.wrap (x_v10+1)),tI 3 (if x21>x_v11 then x21 else x_v11),tS 0 a_x x.length c_x] ar u fun bj au=>?_))
     refine wf ?_
     exact XY y ⟨Nat.lt_succ_self _,XY (IntKind.i64.wrap (x_v10+1)) ⟨(if x21>x_v11 then x21 else x_v11),_,_,rfl,(au.keep [4,3,0] (by rfl)).cut 1 (by kernel_rfl),u.cutPl 1 (by kernel_rfl),q,a⟩⟩
    ·
     rw [l,XV] at a
     refine wp_exit ?_
     obtain rfl:=XZ a
     exact XY _ ⟨_,rfl,p.kp,f,q⟩
  ·
   rintro _ bn ⟨z,i,rfl,av,ae,bb⟩
   refine XT (Aa (Rk 0 2 [tI 2 g] av ae fun bl aw=>?_))
   refine wf (wp_ret ?_)
   obtain rfl:=XZ H
   exact rt (.one (.c (.int .i64 g))) aw ae rfl
set_option maxRecDepth 100000 in
set_option maxHeartbeats 4000000 in
theorem Iy (n:Nat) {h:Ad} {w:World} (hh:Dk h w) (x:List Int) {a_x:Option Addr} {c_x:Nat} (hr_x:A0 h a_x c_x x) {r:Int} (H:DE n x=some r) :
  Calls Try.prog 90 #[.slice a_x x.length c_x] w (Dq (fun h v=>v=.int .i64 r) h w):=by
 refine enter 25 [.c (.slice a_x x.length c_x)] Try.func90 rfl rfl rfl rfl fun t hk=>?_
 have hm:=Ah.begin h w hh
 unfold DE at H
 refine XT (Aa (Rk 0 1 [tS 0 a_x x.length c_x] hk hm fun bc al=>?_))
 refine wf (XT (XT (Aa (Rk 0 3 [tB 7 (decide (((x.length:Nat):Int)<1)),tS 0 a_x x.length c_x] al hm fun bf ad=>?_))))
 refine wf (wC (decide (((x.length:Nat):Int)<1)) ad (fun m=>?_) (fun m=>?_))
 ·
  rw [m,XW] at H
  cases H
 ·
  rw [m,XV] at H
  refine wp_skip (XT (Aa (Rk 0 1 [tS 9 a_x x.length c_x,tS 0 a_x x.length c_x] ad hm fun bk ax=>?_)))
  obtain⟨x10,ex10,H⟩:=Ao H
  obtain⟨ay,a0,a4⟩:=Ai ex10
  obtain⟨d,e,a9,ag,a2,ai⟩:=hr_x.get (by decide) a4
  obtain rfl:=a2
  have s:=hm.addPlc (b:=d) (o:=e+(0:Int).toNat*1) (cs:=[.int .i64 x10]) (fun j c hj=>ai j _ (Aj hj)) rfl (by kernel_rfl) (by kernel_rfl)
  refine Bb 1 (0) rfl rfl (rfl) rfl (by decide) ax (by rfl) (by rfl) (by rfl) ag (by rfl) ay a0 (by kernel_rfl) fun a7 (ak:Kn 25 [(d,e+(0:Int).toNat*1)] [tP 10 0 0,tS 9 a_x x.length c_x,tS 0 a_x x.length c_x] a7)=>?_
  refine Rk 2 2 [tI 3 x10,tS 0 a_x x.length c_x] ak s fun bd am=>?_
  refine wf (XT (XT (Aa (Rk 0 1 [tI 4 1,tI 3 x10,tS 0 a_x x.length c_x] am s fun be an=>?_))))
  refine wf ?_
  obtain⟨g,ac,H⟩:=Ao H
  refine Aw (fun a' w'=>∃ (z:Array Value)(i:Ad),a' = ⟨z,[]⟩∧Kn 25 [(d,e+(0:Int).toNat*1)] [tI 3 g] z∧Ah ⟨w,h,A5⟩ i [(d,e+(0:Int).toNat*1)] [⟨[.int .i64 x10],none⟩] [] w'∧Ad.le h i) ?_ ?_
  ·
   refine wp_block ?_
   refine Au (fun a6 a' w'=>∃ (x_v10:Int)(x_v11:Int)(aa:Array Value)(k:Ad),a' = ⟨aa,[]⟩∧Kn 25 [(d,e+(0:Int).toNat*1)] [tI 4 x_v10,tI 3 x_v11,tS 0 a_x x.length c_x] aa∧Ah ⟨w,h,A5⟩ k [(d,e+(0:Int).toNat*1)] [⟨[.int .i64 x10],none⟩] [] w'∧Ad.le h k∧BP a6 x x_v10 x_v11=some g) n ?_ ?_
   ·
    exact XY 1 ⟨x10,_,_,rfl,an.kp,s,Ad.le_refl _,ac⟩
   ·
    rintro y _ bm ⟨x_v10,x_v11,aa,k,rfl,ao,f,q,a⟩
    clear ac
    obtain _ | y:=y
    ·
     rw [BP] at a; cases a
    rw [BP] at a
    replace hr_x:=hr_x.mono q
    refine XT (XT (Aa (Rk 0 4 [tB 15 (decide (x_v10<((x.length:Nat):Int))),tI 4 x_v10,tI 3 x_v11,tS 0 a_x x.length c_x] ao f fun bg p=>?_)))
    refine wf (wC (decide (x_v10<((x.length:Nat):Int))) p (fun l=>?_) (fun l=>?_))
    ·
     rw [l,XW] at a
     refine wp_skip (XT (wp_block (Aa (Rk 0 3 [tI 20 x_v10,tS 19 a_x x.length c_x,tI 18 x_v11,tI 4 x_v10,tS 0 a_x x.length c_x] p f fun bh ap=>?_))))
     obtain⟨x21,ex21,a⟩:=Ao a
     obtain⟨az,a1,a5⟩:=Ai ex21
     obtain⟨ab,af,ba,ah,a3,aj⟩:=hr_x.get (by decide) a5
     obtain rfl:=a3
     have u:=f.addPlc (b:=ab) (o:=af+(x_v10:Int).toNat*1) (cs:=[.int .i64 x21]) (fun j c hj=>aj j _ (Aj hj)) rfl (by kernel_rfl) (by kernel_rfl)
     refine Bb 3 (x_v10) rfl rfl (rfl) rfl (by decide) ap (by rfl) (by rfl) (by rfl) ah (by rfl) az a1 (by kernel_rfl) fun a8 (aq:Kn 25 [(d,e+(0:Int).toNat*1),(ab,af+(x_v10:Int).toNat*1)] [tP 21 1 0,tI 20 x_v10,tS 19 a_x x.length c_x,tI 18 x_v11,tI 4 x_v10,tS 0 a_x x.length c_x] a8)=>?_
     refine Rk 4 3 [tI 3 (if x21<x_v11 then x21 else x_v11),tI 4 x_v10,tS 0 a_x x.length c_x] aq u fun bi ar=>?_
     refine wf (Aa (Rk 0 3 [tI 4 (IntKind.i64.wrap (x_v10+1)),tI 3 (if x21<x_v11 then x21 else x_v11),tS 0 a_x x.length c_x] ar u fun bj au=>?_))
     refine wf ?_
     exact XY y ⟨Nat.lt_succ_self _,XY (IntKind.i64.wrap (x_v10+1)) ⟨(if x21<x_v11 then x21 else x_v11),_,_,rfl,(au.keep [4,3,0] (by rfl)).cut 1 (by kernel_rfl),u.cutPl 1 (by kernel_rfl),q,a⟩⟩
    ·
     rw [l,XV] at a
     refine wp_exit ?_
     obtain rfl:=XZ a
     exact XY _ ⟨_,rfl,p.kp,f,q⟩
  ·
   rintro _ bn ⟨z,i,rfl,av,ae,bb⟩
   refine XT (Aa (Rk 0 2 [tI 2 g] av ae fun bl aw=>?_))
   refine wf (wp_ret ?_)
   obtain rfl:=XZ H
   exact rt (.one (.c (.int .i64 g))) aw ae rfl
set_option maxRecDepth 100000 in
set_option maxHeartbeats 4000000 in
theorem Lh (n:Nat) {h:Ad} {w:World} (hh:Dk h w) (l:List Int) {a_l:Option Addr} {c_l:Nat} (hr_l:A0 h a_l c_l l) {r:Int} (H:GA n l=some r) :
  Calls Try.prog 57 #[.slice a_l l.length c_l] w (Dq (fun h v=>v=.int .i64 r) h w):=by
 refine enter 5 [.c (.slice a_l l.length c_l)] Try.func57 rfl rfl rfl rfl fun t hk=>?_
 have hm:=Ah.begin h w hh
 unfold GA at H
 refine XT (Aa (Rk 0 1 [tS 0 a_l l.length c_l] hk hm fun m f=>?_))
 refine wf (XT (Aa (Rk 0 1 [tS 3 a_l l.length c_l] f hm fun p g=>?_)))
 obtain⟨x4,ex4,H⟩:=Ao H
 refine wl fun K hK=>?_
 refine wc [.c (.slice a_l l.length c_l)] g hm (Ix n hm.has l hr_l ex4) fun q j s b k a=>?_
 obtain rfl:=b
 refine⟨.one (.c (.int .i64 x4)),rfl,fun i (d:Kn 5 [] [tI 4 x4,tS 3 a_l l.length c_l] i)=>hK _ _ ?_⟩
 refine Rk 2 1 [tI 2 x4] d a fun o e=>?_
 refine wf (wp_ret ?_)
 obtain rfl:=XZ H
 exact rt (.one (.c (.int .i64 x4))) e a rfl
set_option maxRecDepth 100000 in
set_option maxHeartbeats 4000000 in
theorem E7 (n:Nat) {h:Ad} {w:World} (hh:Dk h w) (l:List Int) {a_l:Option Addr} {c_l:Nat} (hr_l:A0 h a_l c_l l) {r:Int} (H:Cv n l=some r) :
  Calls Try.prog 59 #[.slice a_l l.length c_l] w (Dq (fun h v=>v=.int .i64 r) h w):=by
 refine enter 5 [.c (.slice a_l l.length c_l)] Try.func59 rfl rfl rfl rfl fun t hk=>?_
 have hm:=Ah.begin h w hh
 unfold Cv at H
 refine XT (Aa (Rk 0 1 [tS 0 a_l l.length c_l] hk hm fun m f=>?_))
 refine wf (XT (Aa (Rk 0 1 [tS 3 a_l l.length c_l] f hm fun p g=>?_)))
 obtain⟨x4,ex4,H⟩:=Ao H
 refine wl fun K hK=>?_
 refine wc [.c (.slice a_l l.length c_l)] g hm (Iy n hm.has l hr_l ex4) fun q j s b k a=>?_
 obtain rfl:=b
 refine⟨.one (.c (.int .i64 x4)),rfl,fun i (d:Kn 5 [] [tI 4 x4,tS 3 a_l l.length c_l] i)=>hK _ _ ?_⟩
 refine Rk 2 1 [tI 2 x4] d a fun o e=>?_
 refine wf (wp_ret ?_)
 obtain rfl:=XZ H
 exact rt (.one (.c (.int .i64 x4))) e a rfl
abbrev Oc (x15:Rg):List SC:=[.int .i64 x15.lo,.int .i64 x15.hi]
abbrev Od (x30:Ce):List SC:=[.int .i64 x30.tm.lo,.int .i64 x30.tm.hi]
abbrev Dt (r_:Af):List SC:=[.int .i64 r_.turn.lo,.int .i64 r_.turn.hi]
abbrev Oe:List SC:=[.slice none 0 0,.slice none 0 0,.slice none 0 0]
abbrev HB (x30:Ce):List SC:=[.int .i64 x30.stop,.int .i64 x30.tm.lo,.int .i64 x30.tm.hi]
abbrev A7 (p q s ac ad:Nat) (x_v24:Int) (ae:Nat):Be:=[(p,0),(q,0),(s,0),(ac,ad+(x_v24:Int).toNat*3),(ae,0)]
abbrev U0 (aa:Option Addr) (x_v21:List Int) (ab:Nat) (y:Option Addr) (x_v22:List Int) (z:Nat) (u:Option Addr) (x_v23:List (List Int)) (x:Nat):List SC:=[.slice aa x_v21.length ab,.slice y x_v22.length z,.slice u x_v23.length x]
abbrev M0 (am:Option Addr) (aj:((List Int)×(List Int)×(List Int)×(List (List Int)))) (ao:Nat) (an:Option Addr) (ap:Nat) (a5:Option Addr) (aq:((List Int)×(List (List Int)))) (a6:Nat):List SC:=[.slice am aj.2.1.length ao,.slice an aj.2.2.1.length ap,.slice a5 aq.2.length a6]
abbrev DZ (af:Option Addr) (r_:Af) (ag:Nat) (a:Option Addr) (d:Nat) (ah:Option Addr) (ai:Nat):List SC:=[.slice af r_.legs.length ag,.int .i64 r_.turn.lo,.int .i64 r_.turn.hi,.slice a r_.buses.length d,.slice ah r_.spares.length ai,.int .i64 r_.unit,.int .i64 r_.gap,.int .i64 r_.fr,.int .i64 r_.to_]
abbrev CE (af:Option Addr) (r_:Af) (ag:Nat) (a:Option Addr) (d:Nat) (ah:Option Addr) (ai:Nat) (m:Fn) (k l:Array Value) (aa:Option Addr) (x_v21:List Int) (ab:Nat) (y:Option Addr) (x_v22:List Int) (z:Nat) (u:Option Addr) (x_v23:List (List Int)) (x:Nat) (x30:Ce):List CI:=[⟨DZ af r_ ag a d ah ai,some 43⟩,⟨[.func m k l],some 132⟩,⟨U0 aa x_v21 ab y x_v22 z u x_v23 x,some 76⟩,⟨HB x30,none⟩,⟨HB x30,some 96⟩]
abbrev Og (f:Option Addr) (x_v20:List Int) (g:Nat) (ar:List Value) (a2:Nat) (aa:Option Addr) (x_v21:List Int) (ab:Nat) (al:List Value) (y:Option Addr) (x_v22:List Int) (z:Nat) (aw:List Value) (u:Option Addr) (x_v23:List (List Int)) (x:Nat) (ax:List Value):List C0:=[⟨f,x_v20.length,g,3,1,ar,a2⟩,⟨aa,x_v21.length,ab,3,1,al,0⟩,⟨y,x_v22.length,z,3,1,aw,0⟩,⟨u,x_v23.length,x,31,1,ax,0⟩,⟨none,0,0,3,1,[],0⟩,⟨none,0,0,3,1,[],0⟩,⟨none,0,0,31,1,[],0⟩]
abbrev CK (x_v24:Int) (r_:Af) (a:Option Addr) (d:Nat) (f:Option Addr) (x_v20:List Int) (g:Nat):TM:=[tI 28 x_v24,tI 27 ((r_.buses.length:Nat):Int),tS 26 a r_.buses.length d,tS 5 f x_v20.length g,tP 4 2 0,tP 3 1 0,tP 2 0 0]
abbrev Fq (f:Option Addr) (x_v20:List Int) (g:Nat) (u:Option Addr) (x_v23:List (List Int)) (x:Nat) (y:Option Addr) (x_v22:List Int) (z:Nat) (x30:Ce) (m:Fn) (k l:Array Value) (aa:Option Addr) (x_v21:List Int) (ab:Nat) (x_v24:Int) (r_:Af) (a:Option Addr) (d:Nat):TM:=(tS 52 f x_v20.length g)::(tS 51 u x_v23.length x)::(tP 45 0 1)::(tP 43 1 0)::(tS 42 y x_v22.length z)::(tA 37 (Od x30))::(35,.one (.c (.func m k l)))::(tS 33 aa x_v21.length ab)::(CK x_v24 r_ a d f x_v20 g)
abbrev Kr (r_:Af) (m:Fn) (k l:Array Value) (az:Option Addr) (x40:List Int) (a0:Nat) (f:Option Addr) (x_v20:List Int) (g:Nat) (u:Option Addr) (x_v23:List (List Int)) (x:Nat) (y:Option Addr) (x_v22:List Int) (z:Nat) (x_v24:Int) (a:Option Addr) (d:Nat):TM:=(tA 46 (Dt r_))::(44,.one (.c (.func m k l)))::(tP 56 2 0)::(tS 40 az x40.length a0)::(tS 52 f x_v20.length g)::(tS 51 u x_v23.length x)::(tS 42 y x_v22.length z)::(CK x_v24 r_ a d f x_v20 g)
abbrev E8 (y:Option Addr) (x_v22:List Int) (z:Nat) (aa:Option Addr) (x_v21:List Int) (ab:Nat) (x_v24:Int) (r_:Af) (a:Option Addr) (d:Nat) (f:Option Addr) (x_v20:List Int) (g:Nat):TM:=(tS 42 y x_v22.length z)::(tS 33 aa x_v21.length ab)::(CK x_v24 r_ a d f x_v20 g)
abbrev LM (x_v11:Int) (r_:Af) (af:Option Addr) (ag:Nat) (a3:Option Addr) (x_v10:List Int) (a4:Nat):TM:=[tI 13 x_v11,tI 12 ((r_.legs.length:Nat):Int),tS 11 af r_.legs.length ag,tS 5 a3 x_v10.length a4,tP 4 2 0,tP 3 1 0,tP 2 0 0]
abbrev PU (x15:Rg) (m:Fn) (k l:Array Value) (a3:Option Addr) (x_v10:List Int) (a4:Nat) (x_v11:Int) (r_:Af) (af:Option Addr) (ag:Nat):TM:=[tA 20 (Oc x15),(19,.one (.c (.func m k l))),tS 17 a3 x_v10.length a4,tI 13 x_v11,tI 12 ((r_.legs.length:Nat):Int),tS 11 af r_.legs.length ag,tP 4 2 0,tP 3 1 0,tP 2 0 0]
abbrev Jq (x_v32:Int) (r_:Af) (au:Option Addr) (x_v30:List Int) (av:Nat):TM:=[tI 63 x_v32,tI 62 ((r_.spares.length:Nat):Int),tS 5 au x_v30.length av,tP 4 2 0]
set_option maxRecDepth 100000 in
set_option maxHeartbeats 4000000 in
theorem Fy (n:Nat) {h:Ad} {w:World} (hh:Dk h w) (r_:Af) {cs_r_:List Value} (hx_r_:rep h r_ cs_r_) (e:Rj) {cs_e:List Value} (hx_e:rep h e cs_e) {r:Av} (H:Cw n r_ e=some r) :
  Calls Try.prog 67 #[.agg cs_r_.toArray,.agg cs_e.toArray] w (Dq (fun h v=>∃ cs,v=.agg cs.toArray∧rep h r cs) h w):=by
 obtain⟨_,_,rfl,⟨af,ag,rfl,bh⟩,⟨_,_,rfl,⟨_,_,rfl,rfl,rfl⟩,⟨_,_,rfl,⟨a,d,rfl,bi⟩,⟨_,_,rfl,⟨ah,ai,rfl,bk⟩,⟨_,_,rfl,rfl,⟨_,_,rfl,rfl,⟨_,_,rfl,rfl,rfl⟩⟩⟩⟩⟩⟩⟩:=hx_r_
 obtain⟨m,k,l,rfl,a1⟩:=hx_e
 refine enter 74 [.agg (DZ af r_ ag a d ah ai),.agg [.func m k l]] Try.func67 rfl rfl rfl rfl fun t hk=>?_
 have hm:=Ah.begin h w hh
 unfold Cw at H
 refine XT (Aa (wl fun K hK=>?_))
 refine wb (.agg (DZ af r_ ag a d ah ai)) hk hm fun p ok q3 (kr:Kn 74 [(p,0)] [tP 2 0 0,tA 0 (DZ af r_ ag a d ah ai),tA 1 [.func m k l]] ok) nn=>hK _ _ ?_
 refine wl fun K hK=>?_
 refine wb (.agg [.func m k l]) kr nn fun q om q6 (ky:Kn 74 [(p,0),(q,0)] [tP 3 1 0,tP 2 0 0,tA 0 (DZ af r_ ag a d ah ai),tA 1 [.func m k l]] om) ns=>hK _ _ ?_
 refine wl fun K hK=>?_
 refine wa Oe ky ns fun s i7 px (k4:Kn 74 [(p,0),(q,0),(s,0)] [tP 4 2 0,tP 3 1 0,tP 2 0 0,tA 0 (DZ af r_ ag a d ah ai),tA 1 [.func m k l]] i7) f0=>hK _ _ ?_
 have k9:Kn 74 [(p,0),(q,0),(s,0)] [tP 4 2 0,tP 3 1 0,tP 2 0 0] i7:=k4.kp
 refine wf (XT (Aa (Rk 0 1 [tS 5 none 0 0,tP 4 2 0,tP 3 1 0,tP 2 0 0] k9 f0 fun qh lg=>?_)))
 refine wf (XT (XT (Aa (Rk 0 4 [tI 13 0,tI 12 ((r_.legs.length:Nat):Int),tS 11 af r_.legs.length ag,tS 5 none 0 0,tP 4 2 0,tP 3 1 0,tP 2 0 0] lg f0 fun qi lj=>?_))))
 refine wf ?_
 have nt:Ah ⟨w,h,A5⟩ h [(p,0),(q,0),(s,0)] [⟨DZ af r_ ag a d ah ai,some 43⟩,⟨[.func m k l],some 132⟩,⟨Oe,some 76⟩] [⟨none,0,0,3,1,[],0⟩] px:=f0.nilRow 3 1
 have j3:Ag h ([]:List Int) []:=Ag.nil
 obtain⟨br,hl,H⟩:=Ao H
 refine Aw (fun a' w'=>∃ (bs:Option Addr)(bu:Nat)(cg:List Value)(g3:Array Value)(bc:Ad),a' = ⟨g3,[]⟩∧Kn 74 [(p,0),(q,0),(s,0)] [tS 5 bs br.length bu,tP 4 2 0,tP 3 1 0,tP 2 0 0] g3∧Ah ⟨w,h,A5⟩ bc [(p,0),(q,0),(s,0)] [⟨DZ af r_ ag a d ah ai,some 43⟩,⟨[.func m k l],some 132⟩,⟨Oe,some 76⟩] [⟨bs,br.length,bu,3,1,cg,0⟩] w'∧Ad.le h bc∧Ag bc br cg) ?_ ?_
 ·
  refine wp_block ?_
  refine Au (fun oh a' w'=>∃ (x_v10:List Int)(x_v11:Int)(a3:Option Addr)(a4:Nat)(cp:List Value)(g4:Array Value)(de:Ad),a' = ⟨g4,[]⟩∧Kn 74 [(p,0),(q,0),(s,0)] (LM x_v11 r_ af ag a3 x_v10 a4) g4∧Ah ⟨w,h,A5⟩ de [(p,0),(q,0),(s,0)] [⟨DZ af r_ ag a d ah ai,some 43⟩,⟨[.func m k l],some 132⟩,⟨Oe,some 76⟩] [⟨a3,x_v10.length,a4,3,1,cp,0⟩] w'∧Ad.le h de∧Ag de x_v10 cp∧B7 oh r_ e x_v10 x_v11=some br) n ?_ ?_
  ·
   exact XY ([]:List Int) ⟨0,none,0,[],_,_,rfl,lj.kp,nt,Ad.le_refl _,j3,hl⟩
  ·
   rintro gp _ r3 ⟨x_v10,x_v11,a3,a4,cp,g4,de,rfl,mh,f6,co,d2,a9⟩
   clear hl
   obtain _ | gp:=gp
   ·
    rw [B7] at a9; cases a9
   rw [B7] at a9
   replace bh:=bh.mono co
   replace bi:=bi.mono co
   replace bk:=bk.mono co
   replace a1:=a1.mono co
   refine XT (Aa (Rk 0 1 ((tB 14 (decide (x_v11<((r_.legs.length:Nat):Int))))::(LM x_v11 r_ af ag a3 x_v10 a4)) mh f6 fun qq fm=>?_))
   refine wf (XT (wC (decide (x_v11<((r_.legs.length:Nat):Int))) fm (fun e9=>?_) (fun e9=>?_)))
   ·
    rw [e9,XW] at a9
    refine wp_skip (XT (wp_block (XT (Aa ?_))))
    obtain⟨x15,ex15,a9⟩:=Ao a9
    obtain⟨ny,n0,oe⟩:=Ai ex15
    obtain⟨b5,ce,p0,jq,oc,kc⟩:=bh.get (by decide) oe
    obtain⟨_,_,rfl,rfl,rfl⟩:=oc
    have ix:=f6.addPlc (b:=b5) (o:=ce+(x_v11:Int).toNat*2) (cs:=(Oc x15)) (fun j c hj=>kc j _ (Aj hj)) rfl (by kernel_rfl) (by kernel_rfl)
    refine Bb 0 (x_v11) rfl rfl (rfl) rfl (by decide) fm (by rfl) (by rfl) (by rfl) jq (by rfl) ny n0 (by kernel_rfl) fun pt (mx:Kn 74 [(p,0),(q,0),(s,0),(b5,ce+(x_v11:Int).toNat*2)] ((tP 15 3 0)::(tB 14 (decide (x_v11<((r_.legs.length:Nat):Int))))::(LM x_v11 r_ af ag a3 x_v10 a4)) pt)=>?_
    refine Rk 1 1 ((tA 16 (Oc x15))::(LM x_v11 r_ af ag a3 x_v10 a4)) mx ix fun qs my=>?_
    refine wl fun K hK=>?_
    refine wa [.int .i64 0,.int .i64 0] my ix fun cy i8 sa (mz:Kn 74 [(p,0),(q,0),(s,0),(b5,ce+(x_v11:Int).toNat*2),(cy,0)] ((tP 7 4 0)::(tA 16 (Oc x15))::(LM x_v11 r_ af ag a3 x_v10 a4)) i8) nv=>hK _ _ ?_
    refine wl fun K hK=>?_
    refine EA 4 0 (.agg (Oc x15)) (Oc x15) mz nv fun sb m0 ga=>hK _ _ ?_
    have m1:Kn 74 [(p,0),(q,0),(s,0),(b5,ce+(x_v11:Int).toNat*2),(cy,0)] ((tP 7 4 0)::(LM x_v11 r_ af ag a3 x_v10 a4)) i8:=m0.kp
    refine wf (Aa (Rk 0 4 (PU x15 m k l a3 x_v10 a4 x_v11 r_ af ag) m1 ga fun qt m2=>?_))
    obtain⟨x21,ex21,a9⟩:=Ao a9
    refine wl fun K hK=>?_
    refine Dd (.func m k l) [.agg (Oc x15)] _ m2 ga rfl rfl (by decide) (by rfl) (by rfl) rfl (a1 _ _ (Ad.le_refl _) ga.has x15 _ ((Ab Ac Ac):rep de x15 _) _ ex21) fun q1 e6 sc jo h5 nw=>?_
    replace d2:=d2.mono h5
    obtain rfl:=jo
    refine⟨.one (.c (.int .i64 x21)),rfl,fun pu (m3:Kn 74 [(p,0),(q,0),(s,0),(b5,ce+(x_v11:Int).toNat*2),(cy,0)] ((tI 21 x21)::(PU x15 m k l a3 x_v10 a4 x_v11 r_ af ag)) pu)=>hK _ _ ?_⟩
    refine wl fun K hK=>?_
    refine wS 3 1 [.int .i64 x21] m3 nw fun hf pv sd (m4:Kn 74 [(p,0),(q,0),(s,0),(b5,ce+(x_v11:Int).toNat*2),(cy,0)] ((tS 22 hf 1 1)::(tI 21 x21)::(PU x15 m k l a3 x_v10 a4 x_v11 r_ af ag)) pv) iy=>?_
    have fg:Ag e6 ([x21]:List Int) ([.int .i64 x21]:List Value):=⟨_,_,rfl,(Ac:rep e6 (x21:Int) _),rfl⟩
    refine hK _ _ ?_
    obtain⟨x23,ex23,a9⟩:=Ao a9
    obtain⟨gd,m5⟩:=AV ex23
    refine wl fun K hK=>?_
    refine AA 0 8 1 _ (x23.length) _ ([.int .i64 x21]:List Value) m4 iy rfl rfl (by decide) rfl (by rfl) (by kernel_rfl) (by rfl) (by rfl) (Ag.len fg) (iy.rowCell (i:=1) rfl) fg.one (by rw [gd]; simp <;> omega) (by rw [gd]; exact m5) (by decide) fun du dw i9 oj q2 kd (kl:Kn 74 [(p,0),(q,0),(s,0),(b5,ce+(x_v11:Int).toNat*2),(cy,0)] ((tS 23 du x23.length dw)::(tS 22 hf 1 1)::(tI 21 x21)::(PU x15 m k l a3 x_v10 a4 x_v11 r_ af ag)) oj) fv=>?_
    have jr:Ag e6 x23 (cp++([.int .i64 x21]:List Value)):=by rw [gd]; exact Ag.append d2 fg
    obtain rfl:i9=0:=Nat.le_zero.1 kd
    refine hK _ _ ?_
    refine Rk 7 1 [tS 5 du x23.length dw,tI 13 x_v11,tI 12 ((r_.legs.length:Nat):Int),tS 11 af r_.legs.length ag,tP 4 2 0,tP 3 1 0,tP 2 0 0] kl fv fun p9 km=>?_
    refine wf (Aa (Rk 0 2 [tI 13 (IntKind.i64.wrap (x_v11+1)),tS 5 du x23.length dw,tI 12 ((r_.legs.length:Nat):Int),tS 11 af r_.legs.length ag,tP 4 2 0,tP 3 1 0,tP 2 0 0] km fv fun qa kn=>?_))
    refine wf ?_
    exact XY gp ⟨Nat.lt_succ_self _,XY x23 ⟨IntKind.i64.wrap (x_v11+1),du,dw,cp++([.int .i64 x21]:List Value),_,_,rfl,(kn.keep [13,12,11,5,4,3,2] (by rfl)).cut 3 (by kernel_rfl),(fv.cutRw 1).cutPl 3 (by kernel_rfl),XU co h5,jr,a9⟩⟩
   ·
    rw [e9,XV] at a9
    refine wp_exit ?_
    obtain rfl:=XZ a9
    exact XY a3 ⟨a4,cp,_,_,rfl,fm.kp,f6,co,d2⟩
 ·
  rintro _ g7 ⟨bs,bu,cg,g3,bc,rfl,ko,h6,d4,j9⟩
  replace bh:=bh.mono d4
  replace bi:=bi.mono d4
  replace bk:=bk.mono d4
  replace a1:=a1.mono d4
  refine XT (XT (Aa (Rk 0 4 [tI 28 0,tI 27 ((r_.buses.length:Nat):Int),tS 26 a r_.buses.length d,tS 5 bs br.length bu,tP 4 2 0,tP 3 1 0,tP 2 0 0] ko h6 fun qb kq=>?_)))
  refine wf ?_
  have nk:Ah ⟨w,h,A5⟩ bc [(p,0),(q,0),(s,0)] [⟨DZ af r_ ag a d ah ai,some 43⟩,⟨[.func m k l],some 132⟩,⟨Oe,some 76⟩] [⟨bs,br.length,bu,3,1,cg,0⟩,⟨none,0,0,3,1,[],0⟩] g7:=h6.nilRow 3 1
  have js:Ag bc ([]:List Int) []:=Ag.nil
  have nl:Ah ⟨w,h,A5⟩ bc [(p,0),(q,0),(s,0)] [⟨DZ af r_ ag a d ah ai,some 43⟩,⟨[.func m k l],some 132⟩,⟨Oe,some 76⟩] [⟨bs,br.length,bu,3,1,cg,0⟩,⟨none,0,0,3,1,[],0⟩,⟨none,0,0,3,1,[],0⟩] g7:=nk.nilRow 3 1
  have jt:Ag bc ([]:List Int) []:=Ag.nil
  have nm:Ah ⟨w,h,A5⟩ bc [(p,0),(q,0),(s,0)] [⟨DZ af r_ ag a d ah ai,some 43⟩,⟨[.func m k l],some 132⟩,⟨Oe,some 76⟩] [⟨bs,br.length,bu,3,1,cg,0⟩,⟨none,0,0,3,1,[],0⟩,⟨none,0,0,3,1,[],0⟩,⟨none,0,0,31,1,[],0⟩] g7:=nl.nilRow 31 1
  have ju:Ag bc ([]:List (List Int)) []:=Ag.nil
  obtain⟨aj,hg,H⟩:=Ao H
  refine Aw (fun a' w'=>∃ (cr:Option Addr)(cz:Nat)(ef:List Value)(ez:Nat)(am:Option Addr)(ao:Nat)(bd:List Value)(an:Option Addr)(ap:Nat)(bj:List Value)(dv:Option Addr)(dx:Nat)(eg:List Value)(gq:Array Value)(bp:Ad),a' = ⟨gq,[]⟩∧Kn 74 [(p,0),(q,0),(s,0)] [tS 5 cr aj.1.length cz,tP 4 2 0,tP 2 0 0] gq∧Ah ⟨w,h,A5⟩ bp [(p,0),(q,0),(s,0)] [⟨DZ af r_ ag a d ah ai,some 43⟩,⟨[.func m k l],some 132⟩,⟨[.slice am aj.2.1.length ao,.slice an aj.2.2.1.length ap,.slice dv aj.2.2.2.length dx],some 76⟩] [⟨cr,aj.1.length,cz,3,1,ef,ez⟩,⟨am,aj.2.1.length,ao,3,1,bd,0⟩,⟨an,aj.2.2.1.length,ap,3,1,bj,0⟩,⟨dv,aj.2.2.2.length,dx,31,1,eg,0⟩] w'∧Ad.le bc bp∧Ag bp aj.1 ef∧Ag bp aj.2.1 bd∧Ag bp aj.2.2.1 bj∧Ag bp aj.2.2.2 eg) ?_ ?_
  ·
   refine wp_block ?_
   refine Au (fun og a' w'=>∃ (x_v20:List Int)(x_v21:List Int)(x_v22:List Int)(x_v23:List (List Int))(x_v24:Int)(f:Option Addr)(g:Nat)(ar:List Value)(a2:Nat)(aa:Option Addr)(ab:Nat)(al:List Value)(y:Option Addr)(z:Nat)(aw:List Value)(u:Option Addr)(x:Nat)(ax:List Value)(gr:Array Value)(ak:Ad),a' = ⟨gr,[]⟩∧Kn 74 [(p,0),(q,0),(s,0)] (CK x_v24 r_ a d f x_v20 g) gr∧Ah ⟨w,h,A5⟩ ak [(p,0),(q,0),(s,0)] [⟨DZ af r_ ag a d ah ai,some 43⟩,⟨[.func m k l],some 132⟩,⟨U0 aa x_v21 ab y x_v22 z u x_v23 x,some 76⟩] [⟨f,x_v20.length,g,3,1,ar,a2⟩,⟨aa,x_v21.length,ab,3,1,al,0⟩,⟨y,x_v22.length,z,3,1,aw,0⟩,⟨u,x_v23.length,x,31,1,ax,0⟩] w'∧Ad.le bc ak∧Ag ak x_v20 ar∧Ag ak x_v21 al∧Ag ak x_v22 aw∧Ag ak x_v23 ax∧B8 og r_ e x_v20 x_v21 x_v22 x_v23 x_v24=some aj) n ?_ ?_
   ·
    exact XY br ⟨([]:List Int),([]:List Int),([]:List (List Int)),0,bs,bu,cg,0,none,0,[],none,0,[],none,0,[],_,_,rfl,kq.kp,nm,Ad.le_refl _,j9,js,jt,ju,hg⟩
   ·
    rintro ed _ q4 ⟨x_v20,x_v21,x_v22,x_v23,x_v24,f,g,ar,a2,aa,ab,al,y,z,aw,u,x,ax,gr,ak,rfl,ks,fw,cn,b9,a8,dz,d0,ay⟩
    clear hg
    obtain _ | ed:=ed
    ·
     rw [B8] at ay; cases ay
    rw [B8] at ay
    replace bh:=bh.mono cn
    replace bi:=bi.mono cn
    replace bk:=bk.mono cn
    replace a1:=a1.mono cn
    refine XT (Aa (Rk 0 1 ((tB 29 (decide (x_v24<((r_.buses.length:Nat):Int))))::(CK x_v24 r_ a d f x_v20 g)) ks fw fun qc fh=>?_))
    refine wf (XT (wC (decide (x_v24<((r_.buses.length:Nat):Int))) fh (fun e7=>?_) (fun e7=>?_)))
    ·
     rw [e7,XW] at ay
     refine wp_skip (XT (wp_block (XT (Aa ?_))))
     obtain⟨x30,ex30,ay⟩:=Ao ay
     obtain⟨nx,nz,od⟩:=Ai ex30
     obtain⟨ac,ad,pz,jp,ob,jx⟩:=bi.get (by decide) od
     obtain⟨_,_,rfl,rfl,⟨_,_,rfl,rfl,rfl⟩⟩:=ob
     have h7:=fw.addPlc (b:=ac) (o:=ad+(x_v24:Int).toNat*3) (cs:=(HB x30)) (fun j c hj=>jx j _ (Aj hj)) rfl (by kernel_rfl) (by kernel_rfl)
     refine Bb 0 (x_v24) rfl rfl (rfl) rfl (by decide) fh (by rfl) (by rfl) (by rfl) jp (by rfl) nx nz (by kernel_rfl) fun ol (kt:Kn 74 [(p,0),(q,0),(s,0),(ac,ad+(x_v24:Int).toNat*3)] ((tP 30 3 0)::(tB 29 (decide (x_v24<((r_.buses.length:Nat):Int))))::(CK x_v24 r_ a d f x_v20 g)) ol)=>?_
     refine Rk 1 1 ((tA 31 (HB x30))::(CK x_v24 r_ a d f x_v20 g)) kt h7 fun qd ku=>?_
     refine wl fun K hK=>?_
     refine wa [.int .i64 0,.int .i64 0,.int .i64 0] ku h7 fun ae i6 q5 (kv:Kn 74 (A7 p q s ac ad x_v24 ae) ((tP 9 4 0)::(tA 31 (HB x30))::(CK x_v24 r_ a d f x_v20 g)) i6) np=>hK _ _ ?_
     refine wl fun K hK=>?_
     refine EA 4 0 (.agg (HB x30)) (HB x30) kv np fun g8 kw d6=>hK _ _ ?_
     have kx:Kn 74 (A7 p q s ac ad x_v24 ae) ((tP 9 4 0)::(CK x_v24 r_ a d f x_v20 g)) i6:=kw.kp
     refine wf (Al (by kernel_rfl) ?_)
     replace d6:=d6.drew
     refine Am [12,14] (A7 p q s ac ad x_v24 ae) (CE af r_ ag a d ah ai m k l aa x_v21 ab y x_v22 z u x_v23 x x30) ?_
     refine Dr [0,1,2,3,4,5,9,10,11,13,18,19,20] [20,19,18,13,11,10,9,5,4,3,2,1,0] (Fq f x_v20 g u x_v23 x y x_v22 z x30 m k l aa x_v21 ab x_v24 r_ a d) kx d6 fun qe fi=>?_
     obtain⟨x38,ex38,ay⟩:=Ao ay
     obtain⟨x40,ex40,ay⟩:=Ao ay
     obtain⟨x47,ex47,ay⟩:=Ao ay
     obtain⟨x49,ex49,ay⟩:=Ao ay
     obtain⟨x53,ex53,ay⟩:=Ao ay
     obtain⟨x55,ex55,ay⟩:=Ao ay
     have nq:Ah ⟨w,h,A5⟩ ak (A7 p q s ac ad x_v24 ae) (CE af r_ ag a d ah ai m k l aa x_v21 ab y x_v22 z u x_v23 x x30) [⟨f,x_v20.length,g,3,1,ar,a2⟩,⟨aa,x_v21.length,ab,3,1,al,0⟩,⟨y,x_v22.length,z,3,1,aw,0⟩,⟨u,x_v23.length,x,31,1,ax,0⟩,⟨none,0,0,3,1,[],0⟩] (World.drew g8):=d6.nilRow 3 1
     have p4:Ag ak ([]:List Int) []:=Ag.nil
     have nr:Ah ⟨w,h,A5⟩ ak (A7 p q s ac ad x_v24 ae) (CE af r_ ag a d ah ai m k l aa x_v21 ab y x_v22 z u x_v23 x x30) [⟨f,x_v20.length,g,3,1,ar,a2⟩,⟨aa,x_v21.length,ab,3,1,al,0⟩,⟨y,x_v22.length,z,3,1,aw,0⟩,⟨u,x_v23.length,x,31,1,ax,0⟩,⟨none,0,0,3,1,[],0⟩,⟨none,0,0,3,1,[],0⟩] (World.drew g8):=nq.nilRow 3 1
     have p5:Ag ak ([]:List Int) []:=Ag.nil
     have a7:Ah ⟨w,h,A5⟩ ak (A7 p q s ac ad x_v24 ae) (CE af r_ ag a d ah ai m k l aa x_v21 ab y x_v22 z u x_v23 x x30) (Og f x_v20 g ar a2 aa x_v21 ab al y x_v22 z aw u x_v23 x ax) (World.drew g8):=nr.nilRow 31 1
     have p6:Ag ak ([]:List (List Int)) []:=Ag.nil
     refine Ck (fun W=>∀ (az:Option Addr),∀ (a0:Nat),∀ (dt:List Value),∀ (em:Option Addr),∀ (et:Nat),∀ (eh:List Value),∀ a' w',(∃ (gs:Array Value)(cm:Ad),a' = ⟨gs,[]⟩∧Kn 74 (A7 p q s ac ad x_v24 ae) (Kr r_ m k l az x40 a0 f x_v20 g u x_v23 x y x_v22 z x_v24 a d) gs∧Ah ⟨w,h,A5⟩ cm (A7 p q s ac ad x_v24 ae) (CE af r_ ag a d ah ai m k l aa x_v21 ab y x_v22 z u x_v23 x x30) [⟨f,x_v20.length,g,3,1,ar,a2⟩,⟨az,x40.length,a0,3,1,dt,0⟩,⟨y,x_v22.length,z,3,1,aw,0⟩,⟨u,x_v23.length,x,31,1,ax,0⟩,⟨em,1,et,3,1,eh,0⟩,⟨none,0,0,3,1,[],0⟩,⟨none,0,0,31,1,[],0⟩] w'∧Ad.le ak cm∧Ag cm x40 dt∧Ag cm ([x38]:List Int) eh)→W (A7 p q s ac ad x_v24 ae) (CE af r_ ag a d ah ai m k l aa x_v21 ab y x_v22 z u x_v23 x x30) [24,8,7,6,12,14,20,19,18,13,11,10,9,5,4,3,2,1,0] a' w') ?_ (fun gm=>?_)
     ·
      intro az a0 dt em et eh
      rintro _ q7 ⟨gs,cm,rfl,kz,h8,dl,fa,p7⟩
      replace a1:=a1.mono dl
      refine Dl 15 fun K hK=>?_
      refine Dd (.func m k l) [.agg (Dt r_)] _ kz h8 rfl rfl (by decide) (by rfl) (by rfl) rfl (a1 _ _ (Ad.le_refl _) h8.has r_.turn _ ((Ab Ac Ac):rep cm r_.turn _) _ ex47) fun qu e1 q8 jh dm h9=>?_
      replace dz:=dz.mono (XU dl dm)
      obtain rfl:=jh
      refine⟨.one (.c (.int .i64 x47)),rfl,fun oo (k0:Kn 74 (A7 p q s ac ad x_v24 ae) ((tI 47 x47)::(Kr r_ m k l az x40 a0 f x_v20 g u x_v23 x y x_v22 z x_v24 a d)) oo)=>hK _ _ h9.plOk ?_⟩
      refine Dl 16 fun K hK=>?_
      refine By 5 rfl rfl 3 1 [.int .i64 x47] k0 h9 rfl rfl (by decide) (by kernel_rfl) (by rfl) (by rfl) rfl (by decide) fun cj op q9 (k1:Kn 74 (A7 p q s ac ad x_v24 ae) ((tS 48 cj 1 1)::(tI 47 x47)::(Kr r_ m k l az x40 a0 f x_v20 g u x_v23 x y x_v22 z x_v24 a d)) op) fx=>?_
      have fb:Ag e1 ([x47]:List Int) ([.int .i64 x47]:List Value):=⟨_,_,rfl,(Ac:rep e1 (x47:Int) _),rfl⟩
      refine hK _ _ fx.plOk ?_
      refine Dl 17 fun K hK=>?_
      obtain⟨gf,m6⟩:=AV ex49
      refine AA 2 8 1 _ (x49.length) _ ([.int .i64 x47]:List Value) k1 fx rfl rfl (by decide) rfl (by rfl) (by kernel_rfl) (by rfl) (by rfl) (Ag.len fb) (fx.rowCell (i:=5) rfl) fb.one (by rw [gf]; simp <;> omega) (by rw [gf]; exact m6) (by decide) fun ba bb ja oq pw ke (k2:Kn 74 (A7 p q s ac ad x_v24 ae) ((tS 49 ba x49.length bb)::(tS 48 cj 1 1)::(tI 47 x47)::(Kr r_ m k l az x40 a0 f x_v20 g u x_v23 x y x_v22 z x_v24 a d)) oq) fy=>?_
      have fc:Ag e1 x49 (aw++([.int .i64 x47]:List Value)):=by rw [gf]; exact Ag.append dz fb
      obtain rfl:ja=0:=Nat.le_zero.1 ke
      refine hK _ _ fy.plOk ?_
      refine Dl 21 fun K hK=>?_
      obtain⟨ho,dp,n6,d7⟩:=fy.settle (i:=0) rfl
      replace b9:=b9.mono (XU (XU dl dm) dp)
      replace d7:Ah ⟨w,h,A5⟩ ho (A7 p q s ac ad x_v24 ae) (CE af r_ ag a d ah ai m k l aa x_v21 ab y x_v22 z u x_v23 x x30) [⟨f,x_v20.length,g,3,1,ar,(ar:List Value).length⟩,⟨az,x40.length,a0,3,1,dt,0⟩,⟨ba,x49.length,bb,3,1,aw++([.int .i64 x47]:List Value),0⟩,⟨u,x_v23.length,x,31,1,ax,0⟩,⟨em,1,et,3,1,eh,0⟩,⟨cj,1,1,3,1,([.int .i64 x47]:List Value),0⟩,⟨none,0,0,31,1,[],0⟩] pw:=d7
      have n1:A0 ho f g x_v20:=⟨_,b9,n6,fy.rowCap (i:=0) rfl⟩
      refine wc [.c (.slice f x_v20.length g)] k2 d7 (CC ed d7.has x_v20 n1 ex53) fun qv e2 ra ji dq ia=>?_
      replace b9:=b9.mono dq
      replace fa:=fa.mono (XU (XU dm dp) dq)
      replace fc:=fc.mono (XU dp dq)
      replace d0:=d0.mono (XU (XU (XU dl dm) dp) dq)
      obtain⟨bl,bn,rfl,n2⟩:=ji
      refine⟨.one (.c (.slice bl x53.length bn)),rfl,fun os (k3:Kn 74 (A7 p q s ac ad x_v24 ae) ((tS 53 bl x53.length bn)::(tS 49 ba x49.length bb)::(tS 48 cj 1 1)::(tI 47 x47)::(Kr r_ m k l az x40 a0 f x_v20 g u x_v23 x y x_v22 z x_v24 a d)) os)=>hK _ _ ia.plOk ?_⟩
      refine Dl 22 fun K hK=>?_
      refine By 6 rfl rfl 31 1 [.slice bl x53.length bn] k3 ia rfl rfl (by decide) (by kernel_rfl) (by rfl) (by rfl) rfl (by decide) fun ha ot rb (k5:Kn 74 (A7 p q s ac ad x_v24 ae) ((tS 54 ha 1 1)::(tS 53 bl x53.length bn)::(tS 49 ba x49.length bb)::(tS 48 cj 1 1)::(tI 47 x47)::(Kr r_ m k l az x40 a0 f x_v20 g u x_v23 x y x_v22 z x_v24 a d)) ot) fz=>?_
      have fd:Ag e2 ([x53]:List (List Int)) ([.slice bl x53.length bn]:List Value):=⟨_,_,rfl,((Ae n2):rep e2 (x53:List Int) _),rfl⟩
      refine hK _ _ fz.plOk ?_
      refine Dl 23 fun K hK=>?_
      obtain⟨gg,m7⟩:=AV ex55
      refine AA 3 24 1 _ (x55.length) _ ([.slice bl x53.length bn]:List Value) k5 fz rfl rfl (by decide) rfl (by rfl) (by kernel_rfl) (by rfl) (by rfl) (Ag.len fd) (fz.rowCell (i:=6) rfl) fd.one (by rw [gg]; simp <;> omega) (by rw [gg]; exact m7) (by decide) fun b2 b6 jb ou rc kf (k6:Kn 74 (A7 p q s ac ad x_v24 ae) ((tS 55 b2 x55.length b6)::(tS 54 ha 1 1)::(tS 53 bl x53.length bn)::(tS 49 ba x49.length bb)::(tS 48 cj 1 1)::(tI 47 x47)::(Kr r_ m k l az x40 a0 f x_v20 g u x_v23 x y x_v22 z x_v24 a d)) ou) ib=>?_
      have jy:Ag e2 x55 (ax++([.slice bl x53.length bn]:List Value)):=by rw [gg]; exact Ag.append d0 fd
      obtain rfl:jb=0:=Nat.le_zero.1 kf
      refine hK _ _ ib.plOk ?_
      refine Cx 25 rfl (by kernel_rfl) (by decide) (rfl) (by kernel_rfl) fun K hK=>?_
      refine EA 2 0 (.c (.slice az x40.length a0)) [.slice az x40.length a0,.slice y x_v22.length z,.slice u x_v23.length x] k6 ib fun rd k7 ic=>hK _ _ ?_
      refine Am [12,14] (A7 p q s ac ad x_v24 ae) [⟨DZ af r_ ag a d ah ai,some 43⟩,⟨[.func m k l],some 132⟩,⟨[.slice az x40.length a0,.slice y x_v22.length z,.slice u x_v23.length x],some 76⟩,⟨HB x30,none⟩,⟨HB x30,some 96⟩] ?_
      refine Dr [26] [26,25,23,22,21,17,16,15,24,8,7,6,12,14,20,19,18,13,11,10,9,5,4,3,2,1,0] ((tP 57 2 1)::(tS 55 b2 x55.length b6)::(tS 49 ba x49.length bb)::(CK x_v24 r_ a d f x_v20 g)) k7 ic fun qf k8=>?_
      refine Cx 27 rfl (by kernel_rfl) (by decide) (rfl) (by kernel_rfl) fun K hK=>?_
      refine EA 2 1 (.c (.slice ba x49.length bb)) [.slice az x40.length a0,.slice ba x49.length bb,.slice u x_v23.length x] k8 ic fun re la ie=>hK _ _ ?_
      refine Am [12,14] (A7 p q s ac ad x_v24 ae) [⟨DZ af r_ ag a d ah ai,some 43⟩,⟨[.func m k l],some 132⟩,⟨[.slice az x40.length a0,.slice ba x49.length bb,.slice u x_v23.length x],some 76⟩,⟨HB x30,none⟩,⟨HB x30,some 96⟩] ?_
      refine Dr [28] [28,27,26,25,23,22,21,17,16,15,24,8,7,6,12,14,20,19,18,13,11,10,9,5,4,3,2,1,0] ((tP 58 2 2)::(tS 55 b2 x55.length b6)::(CK x_v24 r_ a d f x_v20 g)) la ie fun ov lb=>?_
      refine Cx 29 rfl (by kernel_rfl) (by decide) (rfl) (by kernel_rfl) fun K hK=>?_
      refine EA 2 2 (.c (.slice b2 x55.length b6)) [.slice az x40.length a0,.slice ba x49.length bb,.slice b2 x55.length b6] lb ie fun rf lc ig=>hK _ _ ?_
      refine Am [12,14] (A7 p q s ac ad x_v24 ae) [⟨DZ af r_ ag a d ah ai,some 43⟩,⟨[.func m k l],some 132⟩,⟨[.slice az x40.length a0,.slice ba x49.length bb,.slice b2 x55.length b6],some 76⟩,⟨HB x30,none⟩,⟨HB x30,some 96⟩] ?_
      have ld:Kn 74 (A7 p q s ac ad x_v24 ae) (CK x_v24 r_ a d f x_v20 g) ov:=lc.kp
      refine A1 (by kernel_rfl) (Aa (Rk 0 2 [tI 28 (IntKind.i64.wrap (x_v24+1)),tI 27 ((r_.buses.length:Nat):Int),tS 26 a r_.buses.length d,tS 5 f x_v20.length g,tP 4 2 0,tP 3 1 0,tP 2 0 0] ld ig fun qg lf=>?_))
      refine wf ?_
      exact XY ed ⟨Nat.lt_succ_self _,XY x_v20 ⟨x40,x49,x55,IntKind.i64.wrap (x_v24+1),f,g,ar,(ar:List Value).length,az,a0,dt,ba,bb,aw++([.int .i64 x47]:List Value),b2,b6,ax++([.slice bl x53.length bn]:List Value),_,_,rfl,(lf.keep [28,27,26,5,4,3,2] (by rfl)).cut 3 (by kernel_rfl),(ig.cutRw 4).cutPl 3 (by kernel_rfl),XU cn (XU dl (XU dm (XU dp dq))),b9,fa,fc,jy,ay⟩⟩
     refine Ck (fun W=>∀ (ct:Option Addr),∀ (c0:Nat),∀ (ei:List Value),∀ (en:Option Addr),∀ (eu:Nat),∀ (ej:List Value),∀ a' w',(∃ (gu:Array Value)(c6:Ad),a' = ⟨gu,[]⟩∧Kn 74 (A7 p q s ac ad x_v24 ae) ((44,.one (.c (.func m k l)))::(tP 56 2 0)::(tS 40 ct x40.length c0)::(tS 52 f x_v20.length g)::(tS 51 u x_v23.length x)::(tP 45 0 1)::(tS 42 y x_v22.length z)::(CK x_v24 r_ a d f x_v20 g)) gu∧Ah ⟨w,h,A5⟩ c6 (A7 p q s ac ad x_v24 ae) (CE af r_ ag a d ah ai m k l aa x_v21 ab y x_v22 z u x_v23 x x30) [⟨f,x_v20.length,g,3,1,ar,a2⟩,⟨ct,x40.length,c0,3,1,ei,0⟩,⟨y,x_v22.length,z,3,1,aw,0⟩,⟨u,x_v23.length,x,31,1,ax,0⟩,⟨en,1,eu,3,1,ej,0⟩,⟨none,0,0,3,1,[],0⟩,⟨none,0,0,31,1,[],0⟩] w'∧Ad.le ak c6∧Ag c6 x40 ei∧Ag c6 ([x38]:List Int) ej)→W (A7 p q s ac ad x_v24 ae) (CE af r_ ag a d ah ai m k l aa x_v21 ab y x_v22 z u x_v23 x x30) [24,8,7,6,12,20,19,18,13,11,10,9,5,4,3,2,1,0] a' w') ?_ (fun iz=>?_)
     ·
      intro ct c0 ei en eu ej
      rintro _ rg ⟨gu,c6,rfl,lh,f1,nd,jz,j0⟩
      refine Dl 14 fun K hK=>?_
      refine Br lh f1.plOk rfl (by decide) (by kernel_rfl) fun ow (li:Kn 74 (A7 p q s ac ad x_v24 ae) ((tA 46 (Dt r_))::(44,.one (.c (.func m k l)))::(tP 56 2 0)::(tS 40 ct x40.length c0)::(tS 52 f x_v20.length g)::(tS 51 u x_v23.length x)::(tP 45 0 1)::(tS 42 y x_v22.length z)::(CK x_v24 r_ a d f x_v20 g)) ow)=>hK _ _ f1.plOk ?_
      refine Ba [24,8,7,6,12,14,20,19,18,13,11,10,9,5,4,3,2,1,0] (by kernel_rfl) (by rfl) (gm ct c0 ei en eu ej _ _ ?_)
      exact XY _ ⟨_,rfl,li.kp,f1,nd,jz,j0⟩
     refine Ck (fun W=>∀ (cu:Option Addr),∀ (c1:Nat),∀ (ek:List Value),∀ (eo:Option Addr),∀ (ev:Nat),∀ (el:List Value),∀ a' w',(∃ (gv:Array Value)(c7:Ad),a' = ⟨gv,[]⟩∧Kn 74 (A7 p q s ac ad x_v24 ae) ((tA 46 (Dt r_))::(tP 56 2 0)::(tS 40 cu x40.length c1)::(tS 52 f x_v20.length g)::(tS 51 u x_v23.length x)::(tP 43 1 0)::(tS 42 y x_v22.length z)::(CK x_v24 r_ a d f x_v20 g)) gv∧Ah ⟨w,h,A5⟩ c7 (A7 p q s ac ad x_v24 ae) (CE af r_ ag a d ah ai m k l aa x_v21 ab y x_v22 z u x_v23 x x30) [⟨f,x_v20.length,g,3,1,ar,a2⟩,⟨cu,x40.length,c1,3,1,ek,0⟩,⟨y,x_v22.length,z,3,1,aw,0⟩,⟨u,x_v23.length,x,31,1,ax,0⟩,⟨eo,1,ev,3,1,el,0⟩,⟨none,0,0,3,1,[],0⟩,⟨none,0,0,31,1,[],0⟩] w'∧Ad.le ak c7∧Ag c7 x40 ek∧Ag c7 ([x38]:List Int) el)→W (A7 p q s ac ad x_v24 ae) (CE af r_ ag a d ah ai m k l aa x_v21 ab y x_v22 z u x_v23 x x30) [24,8,7,6,14,20,19,18,13,11,10,9,5,4,3,2,1,0] a' w') ?_ (fun i0=>?_)
     ·
      intro cu c1 ek eo ev el
      rintro _ rh ⟨gv,c7,rfl,lk,f2,nf,j1,j2⟩
      refine Dl 12 fun K hK=>?_
      refine Br lk f2.plOk rfl (by decide) (by kernel_rfl) fun ox (ll:Kn 74 (A7 p q s ac ad x_v24 ae) ((44,.one (.c (.func m k l)))::(tA 46 (Dt r_))::(tP 56 2 0)::(tS 40 cu x40.length c1)::(tS 52 f x_v20.length g)::(tS 51 u x_v23.length x)::(tP 43 1 0)::(tS 42 y x_v22.length z)::(CK x_v24 r_ a d f x_v20 g)) ox)=>hK _ _ f2.plOk ?_
      refine Ba [24,8,7,6,12,14,20,19,18,13,11,10,9,5,4,3,2,1,0] (by kernel_rfl) (by rfl) (gm cu c1 ek eo ev el _ _ ?_)
      exact XY _ ⟨_,rfl,ll.kp,f2,nf,j1,j2⟩
     refine Ck (fun W=>∀ (cv:Option Addr),∀ (c2:Nat),∀ (cf:List Value),∀ a' w',(∃ (gw:Array Value)(c8:Ad),a' = ⟨gw,[]⟩∧Kn 74 (A7 p q s ac ad x_v24 ae) ((tA 46 (Dt r_))::(44,.one (.c (.func m k l)))::(tS 39 cv 1 c2)::(tS 52 f x_v20.length g)::(tS 51 u x_v23.length x)::(E8 y x_v22 z aa x_v21 ab x_v24 r_ a d f x_v20 g)) gw∧Ah ⟨w,h,A5⟩ c8 (A7 p q s ac ad x_v24 ae) (CE af r_ ag a d ah ai m k l aa x_v21 ab y x_v22 z u x_v23 x x30) [⟨f,x_v20.length,g,3,1,ar,a2⟩,⟨aa,x_v21.length,ab,3,1,al,0⟩,⟨y,x_v22.length,z,3,1,aw,0⟩,⟨u,x_v23.length,x,31,1,ax,0⟩,⟨cv,1,c2,3,1,cf,0⟩,⟨none,0,0,3,1,[],0⟩,⟨none,0,0,31,1,[],0⟩] w'∧Ad.le ak c8∧Ag c8 ([x38]:List Int) cf)→W (A7 p q s ac ad x_v24 ae) (CE af r_ ag a d ah ai m k l aa x_v21 ab y x_v22 z u x_v23 x x30) [7,6,12,14,20,19,18,13,11,10,9,5,4,3,2,1,0] a' w') ?_ (fun gn=>?_)
     ·
      intro cv c2 cf
      rintro _ ri ⟨gw,c8,rfl,lm,ih,h0,d1⟩
      replace a8:=a8.mono h0
      refine Dl 8 fun K hK=>?_
      obtain⟨gh,m8⟩:=AV ex40
      refine AA 1 8 1 _ (x40.length) _ cf lm ih rfl rfl (by decide) rfl (by rfl) (by kernel_rfl) (by rfl) (by rfl) (Ag.len d1) (ih.rowCell (i:=4) rfl) d1.one (by rw [gh]; simp <;> omega) (by rw [gh]; exact m8) (by decide) fun ep ew jc oy rj kg (ln:Kn 74 (A7 p q s ac ad x_v24 ae) ((tS 40 ep x40.length ew)::(tA 46 (Dt r_))::(44,.one (.c (.func m k l)))::(tS 39 cv 1 c2)::(tS 52 f x_v20.length g)::(tS 51 u x_v23.length x)::(E8 y x_v22 z aa x_v21 ab x_v24 r_ a d f x_v20 g)) oy) f3=>?_
      have j4:Ag c8 x40 (al++cf):=by rw [gh]; exact Ag.append a8 d1
      obtain rfl:jc=0:=Nat.le_zero.1 kg
      refine hK _ _ f3.plOk ?_
      refine Dr [24] [24,8,7,6,12,14,20,19,18,13,11,10,9,5,4,3,2,1,0] ((tP 56 2 0)::(tS 40 ep x40.length ew)::(tA 46 (Dt r_))::(44,.one (.c (.func m k l)))::(tS 52 f x_v20.length g)::(tS 51 u x_v23.length x)::(tS 42 y x_v22.length z)::(CK x_v24 r_ a d f x_v20 g)) ln f3 fun qj lp=>?_
      refine Ba [24,8,7,6,12,14,20,19,18,13,11,10,9,5,4,3,2,1,0] (by kernel_rfl) (by rfl) (gm ep ew (al++cf) cv c2 cf _ _ ?_)
      exact XY _ ⟨_,rfl,lp.kp,f3,h0,j4,d1⟩
     refine Ck (fun W=>∀ (b3:Option Addr),∀ (b7:Nat),∀ (bz:List Value),∀ a' w',(∃ (gx:Array Value)(c9:Ad),a' = ⟨gx,[]⟩∧Kn 74 (A7 p q s ac ad x_v24 ae) ((44,.one (.c (.func m k l)))::(tS 39 b3 1 b7)::(tS 52 f x_v20.length g)::(tS 51 u x_v23.length x)::(tP 45 0 1)::(E8 y x_v22 z aa x_v21 ab x_v24 r_ a d f x_v20 g)) gx∧Ah ⟨w,h,A5⟩ c9 (A7 p q s ac ad x_v24 ae) (CE af r_ ag a d ah ai m k l aa x_v21 ab y x_v22 z u x_v23 x x30) [⟨f,x_v20.length,g,3,1,ar,a2⟩,⟨aa,x_v21.length,ab,3,1,al,0⟩,⟨y,x_v22.length,z,3,1,aw,0⟩,⟨u,x_v23.length,x,31,1,ax,0⟩,⟨b3,1,b7,3,1,bz,0⟩,⟨none,0,0,3,1,[],0⟩,⟨none,0,0,31,1,[],0⟩] w'∧Ad.le ak c9∧Ag c9 ([x38]:List Int) bz)→W (A7 p q s ac ad x_v24 ae) (CE af r_ ag a d ah ai m k l aa x_v21 ab y x_v22 z u x_v23 x x30) [7,6,12,20,19,18,13,11,10,9,5,4,3,2,1,0] a' w') ?_ (fun i1=>?_)
     ·
      intro b3 b7 bz
      rintro _ rk ⟨gx,c9,rfl,ht,dr,fn,dj⟩
      replace a8:=a8.mono fn
      refine Gk 8 14 rfl rfl (by kernel_rfl) (by decide) (rfl) (rfl) (fun K hK=>?_) (fun K hK=>?_)
      ·
       obtain⟨gi,m9⟩:=AV ex40
       refine AA 1 8 1 _ (x40.length) _ bz ht dr rfl rfl (by decide) rfl (by rfl) (by kernel_rfl) (by rfl) (by rfl) (Ag.len dj) (dr.rowCell (i:=4) rfl) dj.one (by rw [gi]; simp <;> omega) (by rw [gi]; exact m9) (by decide) fun er ex jd oz rl kh (lq:Kn 74 (A7 p q s ac ad x_v24 ae) ((tS 40 er x40.length ex)::(44,.one (.c (.func m k l)))::(tS 39 b3 1 b7)::(tS 52 f x_v20.length g)::(tS 51 u x_v23.length x)::(tP 45 0 1)::(E8 y x_v22 z aa x_v21 ab x_v24 r_ a d f x_v20 g)) oz) f4=>?_
       have j5:Ag c9 x40 (al++bz):=by rw [gi]; exact Ag.append a8 dj
       obtain rfl:jd=0:=Nat.le_zero.1 kh
       refine hK _ _ f4.plOk ?_
       refine Dr [24] [24,8,7,6,12,20,19,18,13,11,10,9,5,4,3,2,1,0] ((tP 56 2 0)::(tS 40 er x40.length ex)::(44,.one (.c (.func m k l)))::(tS 52 f x_v20.length g)::(tS 51 u x_v23.length x)::(tP 45 0 1)::(tS 42 y x_v22.length z)::(CK x_v24 r_ a d f x_v20 g)) lq f4 fun qk lr=>?_
       refine Ba [24,8,7,6,12,20,19,18,13,11,10,9,5,4,3,2,1,0] (by kernel_rfl) (by rfl) (iz er ex (al++bz) b3 b7 bz _ _ ?_)
       exact XY _ ⟨_,rfl,lr.kp,f4,fn,j5,dj⟩
      ·
       refine Br ht dr.plOk rfl (by decide) (by kernel_rfl) fun o0 (ls:Kn 74 (A7 p q s ac ad x_v24 ae) ((tA 46 (Dt r_))::(44,.one (.c (.func m k l)))::(tS 39 b3 1 b7)::(tS 52 f x_v20.length g)::(tS 51 u x_v23.length x)::(tP 45 0 1)::(E8 y x_v22 z aa x_v21 ab x_v24 r_ a d f x_v20 g)) o0)=>hK _ _ dr.plOk ?_
       refine Ba [7,6,12,14,20,19,18,13,11,10,9,5,4,3,2,1,0] (by kernel_rfl) (by rfl) (gn b3 b7 bz _ _ ?_)
       exact XY _ ⟨_,rfl,ls.kp,dr,fn,dj⟩
     refine Ck (fun W=>∀ (b4:Option Addr),∀ (b8:Nat),∀ (b0:List Value),∀ a' w',(∃ (gy:Array Value)(da:Ad),a' = ⟨gy,[]⟩∧Kn 74 (A7 p q s ac ad x_v24 ae) ((tA 46 (Dt r_))::(tS 39 b4 1 b8)::(tS 52 f x_v20.length g)::(tS 51 u x_v23.length x)::(tP 43 1 0)::(E8 y x_v22 z aa x_v21 ab x_v24 r_ a d f x_v20 g)) gy∧Ah ⟨w,h,A5⟩ da (A7 p q s ac ad x_v24 ae) (CE af r_ ag a d ah ai m k l aa x_v21 ab y x_v22 z u x_v23 x x30) [⟨f,x_v20.length,g,3,1,ar,a2⟩,⟨aa,x_v21.length,ab,3,1,al,0⟩,⟨y,x_v22.length,z,3,1,aw,0⟩,⟨u,x_v23.length,x,31,1,ax,0⟩,⟨b4,1,b8,3,1,b0,0⟩,⟨none,0,0,3,1,[],0⟩,⟨none,0,0,31,1,[],0⟩] w'∧Ad.le ak da∧Ag da ([x38]:List Int) b0)→W (A7 p q s ac ad x_v24 ae) (CE af r_ ag a d ah ai m k l aa x_v21 ab y x_v22 z u x_v23 x x30) [7,6,14,20,19,18,13,11,10,9,5,4,3,2,1,0] a' w') ?_ (fun i2=>?_)
     ·
      intro b4 b8 b0
      rintro _ rm ⟨gy,da,rfl,hu,ds,fo,dk⟩
      replace a8:=a8.mono fo
      refine Gk 8 12 rfl rfl (by kernel_rfl) (by decide) (rfl) (rfl) (fun K hK=>?_) (fun K hK=>?_)
      ·
       obtain⟨gj,na⟩:=AV ex40
       refine AA 1 8 1 _ (x40.length) _ b0 hu ds rfl rfl (by decide) rfl (by rfl) (by kernel_rfl) (by rfl) (by rfl) (Ag.len dk) (ds.rowCell (i:=4) rfl) dk.one (by rw [gj]; simp <;> omega) (by rw [gj]; exact na) (by decide) fun es ey je o1 rn ki (lu:Kn 74 (A7 p q s ac ad x_v24 ae) ((tS 40 es x40.length ey)::(tA 46 (Dt r_))::(tS 39 b4 1 b8)::(tS 52 f x_v20.length g)::(tS 51 u x_v23.length x)::(tP 43 1 0)::(E8 y x_v22 z aa x_v21 ab x_v24 r_ a d f x_v20 g)) o1) f5=>?_
       have j6:Ag da x40 (al++b0):=by rw [gj]; exact Ag.append a8 dk
       obtain rfl:je=0:=Nat.le_zero.1 ki
       refine hK _ _ f5.plOk ?_
       refine Dr [24] [24,8,7,6,14,20,19,18,13,11,10,9,5,4,3,2,1,0] ((tP 56 2 0)::(tS 40 es x40.length ey)::(tA 46 (Dt r_))::(tS 52 f x_v20.length g)::(tS 51 u x_v23.length x)::(tP 43 1 0)::(tS 42 y x_v22.length z)::(CK x_v24 r_ a d f x_v20 g)) lu f5 fun ql lv=>?_
       refine Ba [24,8,7,6,14,20,19,18,13,11,10,9,5,4,3,2,1,0] (by kernel_rfl) (by rfl) (i0 es ey (al++b0) b4 b8 b0 _ _ ?_)
       exact XY _ ⟨_,rfl,lv.kp,f5,fo,j6,dk⟩
      ·
       refine Br hu ds.plOk rfl (by decide) (by kernel_rfl) fun o2 (lw:Kn 74 (A7 p q s ac ad x_v24 ae) ((44,.one (.c (.func m k l)))::(tA 46 (Dt r_))::(tS 39 b4 1 b8)::(tS 52 f x_v20.length g)::(tS 51 u x_v23.length x)::(tP 43 1 0)::(E8 y x_v22 z aa x_v21 ab x_v24 r_ a d f x_v20 g)) o2)=>hK _ _ ds.plOk ?_
       refine Ba [7,6,12,14,20,19,18,13,11,10,9,5,4,3,2,1,0] (by kernel_rfl) (by rfl) (gn b4 b8 b0 _ _ ?_)
       exact XY _ ⟨_,rfl,lw.kp,ds,fo,dk⟩
     refine Ck (fun W=>∀ a' w',(∃ (gz:Array Value)(db:Ad),a' = ⟨gz,[]⟩∧Kn 74 (A7 p q s ac ad x_v24 ae) ((tA 46 (Dt r_))::(44,.one (.c (.func m k l)))::(tI 38 x38)::(tS 52 f x_v20.length g)::(tS 51 u x_v23.length x)::(E8 y x_v22 z aa x_v21 ab x_v24 r_ a d f x_v20 g)) gz∧Ah ⟨w,h,A5⟩ db (A7 p q s ac ad x_v24 ae) (CE af r_ ag a d ah ai m k l aa x_v21 ab y x_v22 z u x_v23 x x30) (Og f x_v20 g ar a2 aa x_v21 ab al y x_v22 z aw u x_v23 x ax) w'∧Ad.le ak db)→W (A7 p q s ac ad x_v24 ae) (CE af r_ ag a d ah ai m k l aa x_v21 ab y x_v22 z u x_v23 x x30) [6,12,14,20,19,18,13,11,10,9,5,4,3,2,1,0] a' w') ?_ (fun go=>?_)
     ·
      rintro _ ro ⟨gz,db,rfl,lx,nu,ng⟩
      refine Dl 7 fun K hK=>?_
      refine By 4 rfl rfl 3 1 [.int .i64 x38] lx nu rfl rfl (by decide) (by kernel_rfl) (by rfl) (by rfl) rfl (by decide) fun hb o3 rp (ly:Kn 74 (A7 p q s ac ad x_v24 ae) ((tS 39 hb 1 1)::(tA 46 (Dt r_))::(44,.one (.c (.func m k l)))::(tI 38 x38)::(tS 52 f x_v20.length g)::(tS 51 u x_v23.length x)::(E8 y x_v22 z aa x_v21 ab x_v24 r_ a d f x_v20 g)) o3) ii=>?_
      have j7:Ag db ([x38]:List Int) ([.int .i64 x38]:List Value):=⟨_,_,rfl,(Ac:rep db (x38:Int) _),rfl⟩
      refine hK _ _ ii.plOk ?_
      refine Ba [7,6,12,14,20,19,18,13,11,10,9,5,4,3,2,1,0] (by kernel_rfl) (by rfl) (gn hb 1 ([.int .i64 x38]:List Value) _ _ ?_)
      exact XY _ ⟨_,rfl,ly.kp,ii,ng,j7⟩
     refine Ck (fun W=>∀ a' w',(∃ (g0:Array Value)(dc:Ad),a' = ⟨g0,[]⟩∧Kn 74 (A7 p q s ac ad x_v24 ae) ((44,.one (.c (.func m k l)))::(tI 38 x38)::(tS 52 f x_v20.length g)::(tS 51 u x_v23.length x)::(tP 45 0 1)::(E8 y x_v22 z aa x_v21 ab x_v24 r_ a d f x_v20 g)) g0∧Ah ⟨w,h,A5⟩ dc (A7 p q s ac ad x_v24 ae) (CE af r_ ag a d ah ai m k l aa x_v21 ab y x_v22 z u x_v23 x x30) (Og f x_v20 g ar a2 aa x_v21 ab al y x_v22 z aw u x_v23 x ax) w'∧Ad.le ak dc)→W (A7 p q s ac ad x_v24 ae) (CE af r_ ag a d ah ai m k l aa x_v21 ab y x_v22 z u x_v23 x x30) [6,12,20,19,18,13,11,10,9,5,4,3,2,1,0] a' w') ?_ (fun i3=>?_)
     ·
      rintro _ rq ⟨g0,dc,rfl,hv,d8,h1⟩
      refine Gk 7 14 rfl rfl (by kernel_rfl) (by decide) (rfl) (rfl) (fun K hK=>?_) (fun K hK=>?_)
      ·
       refine By 4 rfl rfl 3 1 [.int .i64 x38] hv d8 rfl rfl (by decide) (by kernel_rfl) (by rfl) (by rfl) rfl (by decide) fun hc o4 rr (lz:Kn 74 (A7 p q s ac ad x_v24 ae) ((tS 39 hc 1 1)::(44,.one (.c (.func m k l)))::(tI 38 x38)::(tS 52 f x_v20.length g)::(tS 51 u x_v23.length x)::(tP 45 0 1)::(E8 y x_v22 z aa x_v21 ab x_v24 r_ a d f x_v20 g)) o4) ij=>?_
       have j8:Ag dc ([x38]:List Int) ([.int .i64 x38]:List Value):=⟨_,_,rfl,(Ac:rep dc (x38:Int) _),rfl⟩
       refine hK _ _ ij.plOk ?_
       refine Ba [7,6,12,20,19,18,13,11,10,9,5,4,3,2,1,0] (by kernel_rfl) (by rfl) (i1 hc 1 ([.int .i64 x38]:List Value) _ _ ?_)
       exact XY _ ⟨_,rfl,lz.kp,ij,h1,j8⟩
      ·
       refine Br hv d8.plOk rfl (by decide) (by kernel_rfl) fun o5 (l0:Kn 74 (A7 p q s ac ad x_v24 ae) ((tA 46 (Dt r_))::(44,.one (.c (.func m k l)))::(tI 38 x38)::(tS 52 f x_v20.length g)::(tS 51 u x_v23.length x)::(tP 45 0 1)::(E8 y x_v22 z aa x_v21 ab x_v24 r_ a d f x_v20 g)) o5)=>hK _ _ d8.plOk ?_
       refine Ba [6,12,14,20,19,18,13,11,10,9,5,4,3,2,1,0] (by kernel_rfl) (by rfl) (go _ _ ?_)
       exact XY _ ⟨_,rfl,l0.kp,d8,h1⟩
     refine Ck (fun W=>∀ a' w',(∃ (g1:Array Value)(dd:Ad),a' = ⟨g1,[]⟩∧Kn 74 (A7 p q s ac ad x_v24 ae) ((tA 46 (Dt r_))::(tI 38 x38)::(tS 52 f x_v20.length g)::(tS 51 u x_v23.length x)::(tP 43 1 0)::(E8 y x_v22 z aa x_v21 ab x_v24 r_ a d f x_v20 g)) g1∧Ah ⟨w,h,A5⟩ dd (A7 p q s ac ad x_v24 ae) (CE af r_ ag a d ah ai m k l aa x_v21 ab y x_v22 z u x_v23 x x30) (Og f x_v20 g ar a2 aa x_v21 ab al y x_v22 z aw u x_v23 x ax) w'∧Ad.le ak dd)→W (A7 p q s ac ad x_v24 ae) (CE af r_ ag a d ah ai m k l aa x_v21 ab y x_v22 z u x_v23 x x30) [6,14,20,19,18,13,11,10,9,5,4,3,2,1,0] a' w') ?_ (fun i4=>?_)
     ·
      rintro _ rs ⟨g1,dd,rfl,hw,d9,h2⟩
      refine Gk 7 12 rfl rfl (by kernel_rfl) (by decide) (rfl) (rfl) (fun K hK=>?_) (fun K hK=>?_)
      ·
       refine By 4 rfl rfl 3 1 [.int .i64 x38] hw d9 rfl rfl (by decide) (by kernel_rfl) (by rfl) (by rfl) rfl (by decide) fun hd o6 ru (l1:Kn 74 (A7 p q s ac ad x_v24 ae) ((tS 39 hd 1 1)::(tA 46 (Dt r_))::(tI 38 x38)::(tS 52 f x_v20.length g)::(tS 51 u x_v23.length x)::(tP 43 1 0)::(E8 y x_v22 z aa x_v21 ab x_v24 r_ a d f x_v20 g)) o6) ik=>?_
       have ka:Ag dd ([x38]:List Int) ([.int .i64 x38]:List Value):=⟨_,_,rfl,(Ac:rep dd (x38:Int) _),rfl⟩
       refine hK _ _ ik.plOk ?_
       refine Ba [7,6,14,20,19,18,13,11,10,9,5,4,3,2,1,0] (by kernel_rfl) (by rfl) (i2 hd 1 ([.int .i64 x38]:List Value) _ _ ?_)
       exact XY _ ⟨_,rfl,l1.kp,ik,h2,ka⟩
      ·
       refine Br hw d9.plOk rfl (by decide) (by kernel_rfl) fun o7 (l2:Kn 74 (A7 p q s ac ad x_v24 ae) ((44,.one (.c (.func m k l)))::(tA 46 (Dt r_))::(tI 38 x38)::(tS 52 f x_v20.length g)::(tS 51 u x_v23.length x)::(tP 43 1 0)::(E8 y x_v22 z aa x_v21 ab x_v24 r_ a d f x_v20 g)) o7)=>hK _ _ d9.plOk ?_
       refine Ba [6,12,14,20,19,18,13,11,10,9,5,4,3,2,1,0] (by kernel_rfl) (by rfl) (go _ _ ?_)
       exact XY _ ⟨_,rfl,l2.kp,d9,h2⟩
     refine Ck (fun W=>∀ a' w',(∃ (g2:Array Value)(dy:Ad),a' = ⟨g2,[]⟩∧Kn 74 (A7 p q s ac ad x_v24 ae) ((tA 46 (Dt r_))::(44,.one (.c (.func m k l)))::(tS 52 f x_v20.length g)::(tS 51 u x_v23.length x)::(tS 42 y x_v22.length z)::(tA 37 (Od x30))::(35,.one (.c (.func m k l)))::(tS 33 aa x_v21.length ab)::(CK x_v24 r_ a d f x_v20 g)) g2∧Ah ⟨w,h,A5⟩ dy (A7 p q s ac ad x_v24 ae) (CE af r_ ag a d ah ai m k l aa x_v21 ab y x_v22 z u x_v23 x x30) (Og f x_v20 g ar a2 aa x_v21 ab al y x_v22 z aw u x_v23 x ax) w'∧Ad.le ak dy)→W (A7 p q s ac ad x_v24 ae) (CE af r_ ag a d ah ai m k l aa x_v21 ab y x_v22 z u x_v23 x x30) [12,14,20,19,18,13,11,10,9,5,4,3,2,1,0] a' w') ?_ (fun i5=>?_)
     ·
      rintro _ rv ⟨g2,dy,rfl,l3,il,h3⟩
      replace a1:=a1.mono h3
      refine Dl 6 fun K hK=>?_
      refine Dd (.func m k l) [.agg (Od x30)] _ l3 il rfl rfl (by decide) (by rfl) (by rfl) rfl (a1 _ _ (Ad.le_refl _) il.has x30.tm _ ((Ab Ac Ac):rep dy x30.tm _) _ ex38) fun qw p1 rx jj nh im=>?_
      obtain rfl:=jj
      refine⟨.one (.c (.int .i64 x38)),rfl,fun o8 (l4:Kn 74 (A7 p q s ac ad x_v24 ae) ((tI 38 x38)::(tA 46 (Dt r_))::(44,.one (.c (.func m k l)))::(tS 52 f x_v20.length g)::(tS 51 u x_v23.length x)::(tS 42 y x_v22.length z)::(tA 37 (Od x30))::(35,.one (.c (.func m k l)))::(tS 33 aa x_v21.length ab)::(CK x_v24 r_ a d f x_v20 g)) o8)=>hK _ _ im.plOk ?_⟩
      refine Ba [6,12,14,20,19,18,13,11,10,9,5,4,3,2,1,0] (by kernel_rfl) (by rfl) (go _ _ ?_)
      exact XY _ ⟨_,rfl,l4.kp,im,XU h3 nh⟩
     refine P9 6 12 14 rfl rfl rfl (by kernel_rfl) (by decide) (rfl) (rfl) (rfl) (fun K hK=>?_) (fun K hK=>?_) (fun K hK=>?_)
     ·
      refine Dd (.func m k l) [.agg (Od x30)] _ fi a7 rfl rfl (by decide) (by rfl) (by rfl) rfl (a1 _ _ (Ad.le_refl _) a7.has x30.tm _ ((Ab Ac Ac):rep ak x30.tm _) _ ex38) fun qx e3 ry jk cc bw=>?_
      replace a8:=a8.mono cc
      obtain rfl:=jk
      refine⟨.one (.c (.int .i64 x38)),rfl,fun o9 (fj:Kn 74 (A7 p q s ac ad x_v24 ae) ((tI 38 x38)::(Fq f x_v20 g u x_v23 x y x_v22 z x30 m k l aa x_v21 ab x_v24 r_ a d)) o9)=>hK _ _ bw.plOk ?_⟩
      refine P9 7 12 14 rfl rfl rfl (by kernel_rfl) (by decide) (rfl) (rfl) (rfl) (fun K hK=>?_) (fun K hK=>?_) (fun K hK=>?_)
      ·
       refine By 4 rfl rfl 3 1 [.int .i64 x38] fj bw rfl rfl (by decide) (by kernel_rfl) (by rfl) (by rfl) rfl (by decide) fun bt pa rz (fk:Kn 74 (A7 p q s ac ad x_v24 ae) ((tS 39 bt 1 1)::(tI 38 x38)::(Fq f x_v20 g u x_v23 x y x_v22 z x30 m k l aa x_v21 ab x_v24 r_ a d)) pa) bq=>?_
       have ca:Ag e3 ([x38]:List Int) ([.int .i64 x38]:List Value):=⟨_,_,rfl,(Ac:rep e3 (x38:Int) _),rfl⟩
       refine hK _ _ bq.plOk ?_
       refine P9 8 12 14 rfl rfl rfl (by kernel_rfl) (by decide) (rfl) (rfl) (rfl) (fun K hK=>?_) (fun K hK=>?_) (fun K hK=>?_)
       ·
        obtain⟨gk,nb⟩:=AV ex40
        refine AA 1 8 1 _ (x40.length) _ ([.int .i64 x38]:List Value) fk bq rfl rfl (by decide) rfl (by rfl) (by kernel_rfl) (by rfl) (by rfl) (Ag.len ca) (bq.rowCell (i:=4) rfl) ca.one (by rw [gk]; simp <;> omega) (by rw [gk]; exact nb) (by decide) fun ck cl jf pb r0 kj (l5:Kn 74 (A7 p q s ac ad x_v24 ae) ((tS 40 ck x40.length cl)::(tS 39 bt 1 1)::(tI 38 x38)::(Fq f x_v20 g u x_v23 x y x_v22 z x30 m k l aa x_v21 ab x_v24 r_ a d)) pb) bx=>?_
        have hs:Ag e3 x40 (al++([.int .i64 x38]:List Value)):=by rw [gk]; exact Ag.append a8 ca
        obtain rfl:jf=0:=Nat.le_zero.1 kj
        refine hK _ _ bx.plOk ?_
        refine Dr [24] [24,8,7,6,20,19,18,13,11,10,9,5,4,3,2,1,0] ((tP 56 2 0)::(tS 40 ck x40.length cl)::(tS 52 f x_v20.length g)::(tS 51 u x_v23.length x)::(tP 45 0 1)::(tP 43 1 0)::(tS 42 y x_v22.length z)::(CK x_v24 r_ a d f x_v20 g)) l5 bx fun qm hx=>?_
        refine Gk 12 14 rfl rfl (by kernel_rfl) (by decide) (rfl) (rfl) (fun K hK=>?_) (fun K hK=>?_)
        ·
         refine Br hx bx.plOk rfl (by decide) (by kernel_rfl) fun pc (l6:Kn 74 (A7 p q s ac ad x_v24 ae) ((44,.one (.c (.func m k l)))::(tP 56 2 0)::(tS 40 ck x40.length cl)::(tS 52 f x_v20.length g)::(tS 51 u x_v23.length x)::(tP 45 0 1)::(tP 43 1 0)::(tS 42 y x_v22.length z)::(CK x_v24 r_ a d f x_v20 g)) pc)=>hK _ _ bx.plOk ?_
         refine Ba [24,8,7,6,12,20,19,18,13,11,10,9,5,4,3,2,1,0] (by kernel_rfl) (by rfl) (iz ck cl (al++([.int .i64 x38]:List Value)) bt 1 ([.int .i64 x38]:List Value) _ _ ?_)
         exact XY _ ⟨_,rfl,l6.kp,bx,cc,hs,ca⟩
        ·
         refine Br hx bx.plOk rfl (by decide) (by kernel_rfl) fun pd (l7:Kn 74 (A7 p q s ac ad x_v24 ae) ((tA 46 (Dt r_))::(tP 56 2 0)::(tS 40 ck x40.length cl)::(tS 52 f x_v20.length g)::(tS 51 u x_v23.length x)::(tP 45 0 1)::(tP 43 1 0)::(tS 42 y x_v22.length z)::(CK x_v24 r_ a d f x_v20 g)) pd)=>hK _ _ bx.plOk ?_
         refine Ba [24,8,7,6,14,20,19,18,13,11,10,9,5,4,3,2,1,0] (by kernel_rfl) (by rfl) (i0 ck cl (al++([.int .i64 x38]:List Value)) bt 1 ([.int .i64 x38]:List Value) _ _ ?_)
         exact XY _ ⟨_,rfl,l7.kp,bx,cc,hs,ca⟩
       ·
        refine Br fk bq.plOk rfl (by decide) (by kernel_rfl) fun pe (l8:Kn 74 (A7 p q s ac ad x_v24 ae) ((44,.one (.c (.func m k l)))::(tS 39 bt 1 1)::(tI 38 x38)::(Fq f x_v20 g u x_v23 x y x_v22 z x30 m k l aa x_v21 ab x_v24 r_ a d)) pe)=>hK _ _ bq.plOk ?_
        refine Ba [7,6,12,20,19,18,13,11,10,9,5,4,3,2,1,0] (by kernel_rfl) (by rfl) (i1 bt 1 ([.int .i64 x38]:List Value) _ _ ?_)
        exact XY _ ⟨_,rfl,l8.kp,bq,cc,ca⟩
       ·
        refine Br fk bq.plOk rfl (by decide) (by kernel_rfl) fun pf (l9:Kn 74 (A7 p q s ac ad x_v24 ae) ((tA 46 (Dt r_))::(tS 39 bt 1 1)::(tI 38 x38)::(Fq f x_v20 g u x_v23 x y x_v22 z x30 m k l aa x_v21 ab x_v24 r_ a d)) pf)=>hK _ _ bq.plOk ?_
        refine Ba [7,6,14,20,19,18,13,11,10,9,5,4,3,2,1,0] (by kernel_rfl) (by rfl) (i2 bt 1 ([.int .i64 x38]:List Value) _ _ ?_)
        exact XY _ ⟨_,rfl,l9.kp,bq,cc,ca⟩
      ·
       refine Br fj bw.plOk rfl (by decide) (by kernel_rfl) fun pg (ma:Kn 74 (A7 p q s ac ad x_v24 ae) ((44,.one (.c (.func m k l)))::(tI 38 x38)::(Fq f x_v20 g u x_v23 x y x_v22 z x30 m k l aa x_v21 ab x_v24 r_ a d)) pg)=>hK _ _ bw.plOk ?_
       refine Ba [6,12,20,19,18,13,11,10,9,5,4,3,2,1,0] (by kernel_rfl) (by rfl) (i3 _ _ ?_)
       exact XY _ ⟨_,rfl,ma.kp,bw,cc⟩
      ·
       refine Br fj bw.plOk rfl (by decide) (by kernel_rfl) fun ph (mb:Kn 74 (A7 p q s ac ad x_v24 ae) ((tA 46 (Dt r_))::(tI 38 x38)::(Fq f x_v20 g u x_v23 x y x_v22 z x30 m k l aa x_v21 ab x_v24 r_ a d)) ph)=>hK _ _ bw.plOk ?_
       refine Ba [6,14,20,19,18,13,11,10,9,5,4,3,2,1,0] (by kernel_rfl) (by rfl) (i4 _ _ ?_)
       exact XY _ ⟨_,rfl,mb.kp,bw,cc⟩
     ·
      refine Br fi a7.plOk rfl (by decide) (by kernel_rfl) fun pi (hy:Kn 74 (A7 p q s ac ad x_v24 ae) ((44,.one (.c (.func m k l)))::(Fq f x_v20 g u x_v23 x y x_v22 z x30 m k l aa x_v21 ab x_v24 r_ a d)) pi)=>hK _ _ a7.plOk ?_
      refine Gk 6 14 rfl rfl (by kernel_rfl) (by decide) (rfl) (rfl) (fun K hK=>?_) (fun K hK=>?_)
      ·
       refine Dd (.func m k l) [.agg (Od x30)] _ hy a7 rfl rfl (by decide) (by rfl) (by rfl) rfl (a1 _ _ (Ad.le_refl _) a7.has x30.tm _ ((Ab Ac Ac):rep ak x30.tm _) _ ex38) fun qy p2 r1 jl ni io=>?_
       obtain rfl:=jl
       refine⟨.one (.c (.int .i64 x38)),rfl,fun pj (mc:Kn 74 (A7 p q s ac ad x_v24 ae) ((tI 38 x38)::(44,.one (.c (.func m k l)))::(Fq f x_v20 g u x_v23 x y x_v22 z x30 m k l aa x_v21 ab x_v24 r_ a d)) pj)=>hK _ _ io.plOk ?_⟩
       refine Ba [6,12,20,19,18,13,11,10,9,5,4,3,2,1,0] (by kernel_rfl) (by rfl) (i3 _ _ ?_)
       exact XY _ ⟨_,rfl,mc.kp,io,ni⟩
      ·
       refine Br hy a7.plOk rfl (by decide) (by kernel_rfl) fun pk (md:Kn 74 (A7 p q s ac ad x_v24 ae) ((tA 46 (Dt r_))::(44,.one (.c (.func m k l)))::(Fq f x_v20 g u x_v23 x y x_v22 z x30 m k l aa x_v21 ab x_v24 r_ a d)) pk)=>hK _ _ a7.plOk ?_
       refine Ba [12,14,20,19,18,13,11,10,9,5,4,3,2,1,0] (by kernel_rfl) (by rfl) (i5 _ _ ?_)
       exact XY _ ⟨_,rfl,md.kp,a7,Ad.le_refl _⟩
     ·
      refine Br fi a7.plOk rfl (by decide) (by kernel_rfl) fun pl (hz:Kn 74 (A7 p q s ac ad x_v24 ae) ((tA 46 (Dt r_))::(Fq f x_v20 g u x_v23 x y x_v22 z x30 m k l aa x_v21 ab x_v24 r_ a d)) pl)=>hK _ _ a7.plOk ?_
      refine Gk 6 12 rfl rfl (by kernel_rfl) (by decide) (rfl) (rfl) (fun K hK=>?_) (fun K hK=>?_)
      ·
       refine Dd (.func m k l) [.agg (Od x30)] _ hz a7 rfl rfl (by decide) (by rfl) (by rfl) rfl (a1 _ _ (Ad.le_refl _) a7.has x30.tm _ ((Ab Ac Ac):rep ak x30.tm _) _ ex38) fun qz p3 r2 jm nj ip=>?_
       obtain rfl:=jm
       refine⟨.one (.c (.int .i64 x38)),rfl,fun pm (me:Kn 74 (A7 p q s ac ad x_v24 ae) ((tI 38 x38)::(tA 46 (Dt r_))::(Fq f x_v20 g u x_v23 x y x_v22 z x30 m k l aa x_v21 ab x_v24 r_ a d)) pm)=>hK _ _ ip.plOk ?_⟩
       refine Ba [6,14,20,19,18,13,11,10,9,5,4,3,2,1,0] (by kernel_rfl) (by rfl) (i4 _ _ ?_)
       exact XY _ ⟨_,rfl,me.kp,ip,nj⟩
      ·
       refine Br hz a7.plOk rfl (by decide) (by kernel_rfl) fun pn (mf:Kn 74 (A7 p q s ac ad x_v24 ae) ((44,.one (.c (.func m k l)))::(tA 46 (Dt r_))::(Fq f x_v20 g u x_v23 x y x_v22 z x30 m k l aa x_v21 ab x_v24 r_ a d)) pn)=>hK _ _ a7.plOk ?_
       refine Ba [12,14,20,19,18,13,11,10,9,5,4,3,2,1,0] (by kernel_rfl) (by rfl) (i5 _ _ ?_)
       exact XY _ ⟨_,rfl,mf.kp,a7,Ad.le_refl _⟩
    ·
     rw [e7,XV] at ay
     refine wp_exit ?_
     obtain rfl:=XZ ay
     exact XY f ⟨g,ar,a2,aa,ab,al,y,z,aw,u,x,ax,_,_,rfl,fh.kp,fw,cn,b9,a8,dz,d0⟩
  ·
   rintro _ r4 ⟨cr,cz,ef,ez,am,ao,bd,an,ap,bj,dv,dx,eg,gq,bp,rfl,mg,iq,d5,jv,dh,di,jw⟩
   replace bh:=bh.mono d5
   replace bi:=bi.mono d5
   replace bk:=bk.mono d5
   replace a1:=a1.mono d5
   refine XT (XT (Aa (Rk 0 4 [tI 63 0,tI 62 ((r_.spares.length:Nat):Int),tS 5 cr aj.1.length cz,tP 4 2 0] mg iq fun qn mi=>?_)))
   refine wf ?_
   obtain⟨aq,hn,H⟩:=Ao H
   refine Aw (fun a' w'=>∃ (cw:Option Addr)(c3:Nat)(cq:List Value)(c5:Nat)(a5:Option Addr)(a6:Nat)(ci:List Value)(g5:Array Value)(df:Ad),a' = ⟨g5,[]⟩∧Kn 74 [(p,0),(q,0),(s,0)] [tP 4 2 0] g5∧Ah ⟨w,h,A5⟩ df [(p,0),(q,0),(s,0)] [⟨DZ af r_ ag a d ah ai,some 43⟩,⟨[.func m k l],some 132⟩,⟨M0 am aj ao an ap a5 aq a6,some 76⟩] [⟨cw,aq.1.length,c3,3,1,cq,c5⟩,⟨am,aj.2.1.length,ao,3,1,bd,0⟩,⟨an,aj.2.2.1.length,ap,3,1,bj,0⟩,⟨a5,aq.2.length,a6,31,1,ci,0⟩] w'∧Ad.le bp df∧Ag df aq.1 cq∧Ag df aq.2 ci) ?_ ?_
   ·
    refine wp_block ?_
    refine Au (fun oi a' w'=>∃ (x_v30:List Int)(x_v31:List (List Int))(x_v32:Int)(au:Option Addr)(av:Nat)(b1:List Value)(e0:Nat)(be:Option Addr)(bf:Nat)(ch:List Value)(g6:Array Value)(dg:Ad),a' = ⟨g6,[]⟩∧Kn 74 [(p,0),(q,0),(s,0)] (Jq x_v32 r_ au x_v30 av) g6∧Ah ⟨w,h,A5⟩ dg [(p,0),(q,0),(s,0)] [⟨DZ af r_ ag a d ah ai,some 43⟩,⟨[.func m k l],some 132⟩,⟨[.slice am aj.2.1.length ao,.slice an aj.2.2.1.length ap,.slice be x_v31.length bf],some 76⟩] [⟨au,x_v30.length,av,3,1,b1,e0⟩,⟨am,aj.2.1.length,ao,3,1,bd,0⟩,⟨an,aj.2.2.1.length,ap,3,1,bj,0⟩,⟨be,x_v31.length,bf,31,1,ch,0⟩] w'∧Ad.le bp dg∧Ag dg x_v30 b1∧Ag dg x_v31 ch∧B9 oi r_ x_v30 x_v31 x_v32=some aq) n ?_ ?_
    ·
     exact XY aj.1 ⟨aj.2.2.2,0,cr,cz,ef,ez,dv,dx,eg,_,_,rfl,mi.kp,iq,Ad.le_refl _,jv,jw,hn⟩
    ·
     rintro ee _ py ⟨x_v30,x_v31,x_v32,au,av,b1,e0,be,bf,ch,g6,dg,rfl,mj,cd,bv,cb,d3,bg⟩
     clear hn
     obtain _ | ee:=ee
     ·
      rw [B9] at bg; cases bg
     rw [B9] at bg
     replace bh:=bh.mono bv
     replace bi:=bi.mono bv
     replace bk:=bk.mono bv
     replace a1:=a1.mono bv
     replace dh:=dh.mono bv
     replace di:=di.mono bv
     refine XT (Aa (Rk 0 1 ((tB 64 (decide (x_v32<((r_.spares.length:Nat):Int))))::(Jq x_v32 r_ au x_v30 av)) mj cd fun qo fl=>?_))
     refine wf (XT (wC (decide (x_v32<((r_.spares.length:Nat):Int))) fl (fun e8=>?_) (fun e8=>?_)))
     ·
      rw [e8,XW] at bg
      refine wp_skip (XT (wp_block (Al (by kernel_rfl) ?_)))
      replace cd:=cd.drew
      refine Am [] [(p,0),(q,0),(s,0)] [⟨DZ af r_ ag a d ah ai,some 43⟩,⟨[.func m k l],some 132⟩,⟨[.slice am aj.2.1.length ao,.slice an aj.2.2.1.length ap,.slice be x_v31.length bf],some 76⟩] ?_
      refine Dr [0,1,2] [2,1,0] ((tS 67 au x_v30.length av)::(tS 66 be x_v31.length bf)::(Jq x_v32 r_ au x_v30 av)) fl cd fun qp ml=>?_
      obtain⟨hp,fp,n7,ea⟩:=cd.settle (i:=0) rfl
      replace cb:=cb.mono fp
      replace ea:Ah ⟨w,h,A5⟩ hp [(p,0),(q,0),(s,0)] [⟨DZ af r_ ag a d ah ai,some 43⟩,⟨[.func m k l],some 132⟩,⟨[.slice am aj.2.1.length ao,.slice an aj.2.2.1.length ap,.slice be x_v31.length bf],some 76⟩] [⟨au,x_v30.length,av,3,1,b1,(b1:List Value).length⟩,⟨am,aj.2.1.length,ao,3,1,bd,0⟩,⟨an,aj.2.2.1.length,ap,3,1,bj,0⟩,⟨be,x_v31.length,bf,31,1,ch,0⟩] (World.drew py):=ea
      have n3:A0 hp au av x_v30:=⟨_,cb,n7,cd.rowCap (i:=0) rfl⟩
      obtain⟨x68,ex68,bg⟩:=Ao bg
      refine Dl 3 fun K hK=>?_
      refine wc [.c (.slice au x_v30.length av)] ml ea (CC ee ea.has x_v30 n3 ex68) fun q0 e4 r5 jn fq ir=>?_
      replace cb:=cb.mono fq
      replace d3:=d3.mono (XU fp fq)
      obtain⟨bm,bo,rfl,n4⟩:=jn
      refine⟨.one (.c (.slice bm x68.length bo)),rfl,fun po (mm:Kn 74 [(p,0),(q,0),(s,0)] ((tS 68 bm x68.length bo)::(tS 67 au x_v30.length av)::(tS 66 be x_v31.length bf)::(Jq x_v32 r_ au x_v30 av)) po)=>hK _ _ ir.plOk ?_⟩
      refine Dl 4 fun K hK=>?_
      refine wS 31 1 [.slice bm x68.length bo] mm ir fun he pp r6 (mn:Kn 74 [(p,0),(q,0),(s,0)] ((tS 69 he 1 1)::(tS 68 bm x68.length bo)::(tS 67 au x_v30.length av)::(tS 66 be x_v31.length bf)::(Jq x_v32 r_ au x_v30 av)) pp) f7=>?_
      have ff:Ag e4 ([x68]:List (List Int)) ([.slice bm x68.length bo]:List Value):=⟨_,_,rfl,((Ae n4):rep e4 (x68:List Int) _),rfl⟩
      refine hK _ _ f7.plOk ?_
      obtain⟨x70,ex70,bg⟩:=Ao bg
      obtain⟨gl,nc⟩:=AV ex70
      refine Dl 5 fun K hK=>?_
      refine AA 3 24 1 _ (x70.length) _ ([.slice bm x68.length bo]:List Value) mn f7 rfl rfl (by decide) rfl (by rfl) (by kernel_rfl) (by rfl) (by rfl) (Ag.len ff) (f7.rowCell (i:=4) rfl) ff.one (by rw [gl]; simp <;> omega) (by rw [gl]; exact nc) (by decide) fun cx c4 jg pq r7 kk (mo:Kn 74 [(p,0),(q,0),(s,0)] ((tS 70 cx x70.length c4)::(tS 69 he 1 1)::(tS 68 bm x68.length bo)::(tS 67 au x_v30.length av)::(tS 66 be x_v31.length bf)::(Jq x_v32 r_ au x_v30 av)) pq) f8=>?_
      have kb:Ag e4 x70 (ch++([.slice bm x68.length bo]:List Value)):=by rw [gl]; exact Ag.append d3 ff
      obtain rfl:jg=0:=Nat.le_zero.1 kk
      refine hK _ _ f8.plOk ?_
      refine Dr [6] (dn 6) ((tP 71 2 2)::(tS 70 cx x70.length c4)::(Jq x_v32 r_ au x_v30 av)) mo f8 fun pr mp=>?_
      refine Cx 7 rfl (by kernel_rfl) (by decide) (rfl) (by kernel_rfl) fun K hK=>?_
      refine EA 2 2 (.c (.slice cx x70.length c4)) [.slice am aj.2.1.length ao,.slice an aj.2.2.1.length ap,.slice cx x70.length c4] mp f8 fun r8 mq iu=>hK _ _ ?_
      have mr:Kn 74 [(p,0),(q,0),(s,0)] (Jq x_v32 r_ au x_v30 av) pr:=mq.kp
      refine EH (by kernel_rfl) (Aa (Rk 0 2 [tI 63 (IntKind.i64.wrap (x_v32+1)),tI 62 ((r_.spares.length:Nat):Int),tS 5 au x_v30.length av,tP 4 2 0] mr iu fun qr ms=>?_))
      refine wf ?_
      exact XY ee ⟨Nat.lt_succ_self _,XY x_v30 ⟨x70,IntKind.i64.wrap (x_v32+1),au,av,b1,(b1:List Value).length,cx,c4,ch++([.slice bm x68.length bo]:List Value),_,_,rfl,ms.kp,iu.cutRw 4,XU bv (XU fp fq),cb,kb,bg⟩⟩
     ·
      rw [e8,XV] at bg
      refine wp_exit ?_
      obtain rfl:=XZ bg
      exact XY au ⟨av,b1,e0,be,bf,ch,_,_,rfl,fl.kp,cd,bv,cb,d3⟩
   ·
    rintro _ r9 ⟨cw,c3,cq,c5,a5,a6,ci,g5,df,rfl,mt,iv,h4,p8,fe⟩
    refine XT (Aa (Rk 0 1 [tA 73 (M0 am aj ao an ap a5 aq a6),tP 4 2 0] mt iv fun ps mu=>?_))
    refine wl fun K hK=>?_
    refine EA 2 0 (.agg (M0 am aj ao an ap a5 aq a6)) (M0 am aj ao an ap a5 aq a6) mu iv fun g9 mv iw=>hK _ _ ?_
    have mw:Kn 74 [(p,0),(q,0),(s,0)] [tP 4 2 0] ps:=mv.kp
    refine wf (wp_ret ?_)
    obtain⟨hq,fs,n8,eb⟩:=iw.settle (i:=1) rfl
    replace dh:=dh.mono (XU h4 fs)
    replace eb:Ah ⟨w,h,A5⟩ hq [(p,0),(q,0),(s,0)] [⟨DZ af r_ ag a d ah ai,some 43⟩,⟨[.func m k l],some 132⟩,⟨M0 am aj ao an ap a5 aq a6,some 76⟩] [⟨cw,aq.1.length,c3,3,1,cq,c5⟩,⟨am,aj.2.1.length,ao,3,1,bd,(bd:List Value).length⟩,⟨an,aj.2.2.1.length,ap,3,1,bj,0⟩,⟨a5,aq.2.length,a6,31,1,ci,0⟩] g9:=eb
    have gb:A0 hq am ao aj.2.1:=⟨_,dh,n8,iw.rowCap (i:=1) rfl⟩
    obtain⟨hr,ft,n9,ec⟩:=eb.settle (i:=2) rfl
    replace di:=di.mono (XU (XU h4 fs) ft)
    replace ec:Ah ⟨w,h,A5⟩ hr [(p,0),(q,0),(s,0)] [⟨DZ af r_ ag a d ah ai,some 43⟩,⟨[.func m k l],some 132⟩,⟨M0 am aj ao an ap a5 aq a6,some 76⟩] [⟨cw,aq.1.length,c3,3,1,cq,c5⟩,⟨am,aj.2.1.length,ao,3,1,bd,(bd:List Value).length⟩,⟨an,aj.2.2.1.length,ap,3,1,bj,(bj:List Value).length⟩,⟨a5,aq.2.length,a6,31,1,ci,0⟩] g9:=ec
    have gc:A0 hr an ap aj.2.2.1:=⟨_,di,n9,eb.rowCap (i:=2) rfl⟩
    obtain⟨e5,fu,oa,f9⟩:=ec.settle (i:=3) rfl
    replace gb:=gb.mono (XU ft fu)
    replace gc:=gc.mono fu
    replace fe:=fe.mono (XU (XU fs ft) fu)
    replace f9:Ah ⟨w,h,A5⟩ e5 [(p,0),(q,0),(s,0)] [⟨DZ af r_ ag a d ah ai,some 43⟩,⟨[.func m k l],some 132⟩,⟨M0 am aj ao an ap a5 aq a6,some 76⟩] [⟨cw,aq.1.length,c3,3,1,cq,c5⟩,⟨am,aj.2.1.length,ao,3,1,bd,(bd:List Value).length⟩,⟨an,aj.2.2.1.length,ap,3,1,bj,(bj:List Value).length⟩,⟨a5,aq.2.length,a6,31,1,ci,(ci:List Value).length⟩] g9:=f9
    have n5:A0 e5 a5 a6 aq.2:=⟨_,fe,oa,ec.rowCap (i:=3) rfl⟩
    obtain rfl:=XZ H
    exact rt (.one (.agg (M0 am aj ao an ap a5 aq a6))) mw f9 ⟨_,rfl,((Ab (Ae gb) (Ab (Ae gc) (Ae n5))):rep e5 ((Av.mk aj.2.1 aj.2.2.1 aq.2):Av) _)⟩
end Go.Proofs.Ytokchpjijlebiaa
