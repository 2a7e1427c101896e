/- Each call computes its plain function. -/
import Derived.Test.YtokchpjijlebiaaProg
import Derived.Test.YtokchpjijlebiaaNQP0
set_option linter.all false
namespace Go.Proofs.Ytokchpjijlebiaa
open Go Go.RowKit
open Rep (rep)
open KRep (kv)
open VRep (rv)
set_option maxRecDepth 100000 in
set_option maxHeartbeats 4000000 in
theorem Co (n:Nat) {h:Ad} {w:World} (hh:Dv h w) (s:List Int) {a_s:Option Addr} {c_s:Nat} (hr_s:Ar h a_s c_s s) {r:List Int} (H:B0 n s=some r) :
  Calls Try.prog 87 #[.slice a_s s.length c_s] w (D6 (fun h v=>∃ a c,v=.slice a r.length c∧Ar h a c r) h w):=by
 refine enter 8 [.c (.slice a_s s.length c_s)] Try.func87 rfl rfl rfl rfl fun t hk=>?_
 have hm:=Ah.begin h w hh
 unfold B0 at H
 refine QT (Ab (Rk 0 1 [tS 0 a_s s.length c_s] hk hm fun ao ac=>?_))
 refine wf (QT (QT (Ab (Rk 0 2 [tB 4 a_s.isNone,tS 0 a_s s.length c_s] ac hm fun aq k=>?_))))
 refine wf (wC (a_s.isNone) k (fun u=>?_) (fun u=>?_))
 ·
  obtain rfl:=Ar.isNil hr_s (by decide) u
  replace H:some ([]:List Int)=some r:=by simpa [KY] using H
  refine QT (Ab (Rk 0 1 [tS 2 none 0 0] k hm fun au af=>?_))
  refine wf (wp_ret ?_)
  obtain rfl:=QZ H
  exact rt (.one (.c (.slice none 0 0))) af hm ⟨_,_,rfl,Ar.nil⟩
 ·
  refine wp_skip (QT (Ab (wl fun K hK=>?_)))
  refine wS 3 1 [] k hm fun g am av (aa:Kn 8 [] [tS 5 g 0 0,tB 4 a_s.isNone,tS 0 a_s s.length c_s] am) l=>?_
  have y:Af h ([]:List Int) ([]:List Value):=Af.nil
  refine hK _ _ ?_
  refine Rk 1 1 [tS 6 a_s s.length c_s,tS 5 g 0 0] aa l fun ap ab=>?_
  obtain⟨f,e,ak,_⟩:=id hr_s
  obtain⟨x7,ex7,H⟩:=A3 H
  obtain⟨p,ag⟩:=BZ ex7
  refine wl fun K hK=>?_
  refine Bs 0 8 s.length _ (x7.length) _ f ab l rfl rfl (by decide) rfl (by rfl) (by kernel_rfl) (by rfl) (by rfl) (Af.len e) (ak.cell l.has e.one) e.one (by rw [p]; simp <;> omega) (by rw [p]; exact ag) (by decide) fun b d x al an z (ad:Kn 8 [] [tS 7 b x7.length d,tS 6 a_s s.length c_s,tS 5 g 0 0] al) m=>?_
  have j:Af h x7 (([]:List Value)++f):=by rw [p]; exact Af.append y e
  obtain rfl:x=0:=Nat.le_zero.1 z
  refine hK _ _ ?_
  refine Rk 3 1 [tS 2 b x7.length d] ad m fun ar ae=>?_
  refine wf (wp_ret ?_)
  obtain⟨q,ah,aj,o⟩:=m.settle (i:=0) rfl
  replace j:=j.mono ah
  replace o:Ah ⟨w,h,Az⟩ q [] [] [⟨b,x7.length,d,3,1,([]:List Value)++f,((([]:List Value)++f):List Value).length⟩] an:=o
  have ai:Ar q b d x7:=⟨_,j,aj,m.rowCap (i:=0) rfl⟩
  obtain rfl:=QZ H
  exact rt (.one (.c (.slice b x7.length d))) ae o ⟨_,_,rfl,ai⟩
set_option maxRecDepth 100000 in
set_option maxHeartbeats 4000000 in
theorem F4 (n:Nat) {h:Ad} {w:World} (hh:Dv h w) (s:List Bool) {a_s:Option Addr} {c_s:Nat} (hr_s:Ar h a_s c_s s) {r:List Bool} (H:Dq n s=some r) :
  Calls Try.prog 88 #[.slice a_s s.length c_s] w (D6 (fun h v=>∃ a c,v=.slice a r.length c∧Ar h a c r) h w):=by
 refine enter 8 [.c (.slice a_s s.length c_s)] Try.func88 rfl rfl rfl rfl fun t hk=>?_
 have hm:=Ah.begin h w hh
 unfold Dq at H
 refine QT (Ab (Rk 0 1 [tS 0 a_s s.length c_s] hk hm fun ao ac=>?_))
 refine wf (QT (QT (Ab (Rk 0 2 [tB 4 a_s.isNone,tS 0 a_s s.length c_s] ac hm fun aq k=>?_))))
 refine wf (wC (a_s.isNone) k (fun u=>?_) (fun u=>?_))
 ·
  obtain rfl:=Ar.isNil hr_s (by decide) u
  replace H:some ([]:List Bool)=some r:=by simpa [KY] using H
  refine QT (Ab (Rk 0 1 [tS 2 none 0 0] k hm fun au af=>?_))
  refine wf (wp_ret ?_)
  obtain rfl:=QZ H
  exact rt (.one (.c (.slice none 0 0))) af hm ⟨_,_,rfl,Ar.nil⟩
 ·
  refine wp_skip (QT (Ab (wl fun K hK=>?_)))
  refine wS 4 1 [] k hm fun g am av (aa:Kn 8 [] [tS 5 g 0 0,tB 4 a_s.isNone,tS 0 a_s s.length c_s] am) l=>?_
  have y:Af h ([]:List Bool) ([]:List Value):=Af.nil
  refine hK _ _ ?_
  refine Rk 1 1 [tS 6 a_s s.length c_s,tS 5 g 0 0] aa l fun ap ab=>?_
  obtain⟨f,e,ak,_⟩:=id hr_s
  obtain⟨x7,ex7,H⟩:=A3 H
  obtain⟨p,ag⟩:=BZ ex7
  refine wl fun K hK=>?_
  refine Bs 0 1 s.length _ (x7.length) _ f ab l rfl rfl (by decide) rfl (by rfl) (by kernel_rfl) (by rfl) (by rfl) (Af.len e) (ak.cell l.has e.one) e.one (by rw [p]; simp <;> omega) (by rw [p]; exact ag) (by decide) fun b d x al an z (ad:Kn 8 [] [tS 7 b x7.length d,tS 6 a_s s.length c_s,tS 5 g 0 0] al) m=>?_
  have j:Af h x7 (([]:List Value)++f):=by rw [p]; exact Af.append y e
  obtain rfl:x=0:=Nat.le_zero.1 z
  refine hK _ _ ?_
  refine Rk 3 1 [tS 2 b x7.length d] ad m fun ar ae=>?_
  refine wf (wp_ret ?_)
  obtain⟨q,ah,aj,o⟩:=m.settle (i:=0) rfl
  replace j:=j.mono ah
  replace o:Ah ⟨w,h,Az⟩ q [] [] [⟨b,x7.length,d,4,1,([]:List Value)++f,((([]:List Value)++f):List Value).length⟩] an:=o
  have ai:Ar q b d x7:=⟨_,j,aj,m.rowCap (i:=0) rfl⟩
  obtain rfl:=QZ H
  exact rt (.one (.c (.slice b x7.length d))) ae o ⟨_,_,rfl,ai⟩
set_option maxRecDepth 100000 in
set_option maxHeartbeats 4000000 in
theorem GQ (n:Nat) {h:Ad} {w:World} (hh:Dv h w) (x:List Int) {a_x:Option Addr} {c_x:Nat} (hr_x:Ar h a_x c_x x) {r:Int} (H:Ef n x=some r) :
  Calls Try.prog 89 #[.slice a_x x.length c_x] w (D6 (fun h v=>v=.int .i64 r) h w):=by
 refine enter 25 [.c (.slice a_x x.length c_x)] Try.func89 rfl rfl rfl rfl fun t hk=>?_
 have hm:=Ah.begin h w hh
 unfold Ef at H
 refine QT (Ab (Rk 0 1 [tS 0 a_x x.length c_x] hk hm fun bc al=>?_))
 refine wf (QT (QT (Ab (Rk 0 3 [tB 7 (decide (((x.length:Nat):Int)<1)),tS 0 a_x x.length c_x] al hm fun bf ad=>?_))))
 refine wf (wC (decide (((x.length:Nat):Int)<1)) ad (fun m=>?_) (fun m=>?_))
 ·
  rw [m,QW] at H
  cases H
 ·
  rw [m,QV] at H
  refine wp_skip (QT (Ab (Rk 0 1 [tS 9 a_x x.length c_x,tS 0 a_x x.length c_x] ad hm fun bk ax=>?_)))
  obtain⟨x10,ex10,H⟩:=A3 H
  obtain⟨ay,a0,a4⟩:=Ak ex10
  obtain⟨d,e,a9,ag,a2,ai⟩:=hr_x.get (by decide) a4
  obtain rfl:=a2
  have s:=hm.addPlc (b:=d) (o:=e+(0:Int).toNat*1) (cs:=[.int .i64 x10]) (fun j c hj=>ai j _ (Al hj)) rfl (by kernel_rfl) (by kernel_rfl)
  refine A6 1 (0) rfl rfl (rfl) rfl (by decide) ax (by rfl) (by rfl) (by rfl) ag (by rfl) ay a0 (by kernel_rfl) fun a7 (ak:Kn 25 [(d,e+(0:Int).toNat*1)] [tP 10 0 0,tS 9 a_x x.length c_x,tS 0 a_x x.length c_x] a7)=>?_
  refine Rk 2 2 [tI 3 x10,tS 0 a_x x.length c_x] ak s fun bd am=>?_
  refine wf (QT (QT (Ab (Rk 0 1 [tI 4 1,tI 3 x10,tS 0 a_x x.length c_x] am s fun be an=>?_))))
  refine wf ?_
  obtain⟨g,ac,H⟩:=A3 H
  refine A7 (fun a' w'=>∃ (z:Array Value)(i:Ad),a' = ⟨z,[]⟩∧Kn 25 [(d,e+(0:Int).toNat*1)] [tI 3 g] z∧Ah ⟨w,h,Az⟩ i [(d,e+(0:Int).toNat*1)] [⟨[.int .i64 x10],none⟩] [] w'∧Ad.le h i) ?_ ?_
  ·
   refine wp_block ?_
   refine A5 (fun a6 a' w'=>∃ (x_v10:Int)(x_v11:Int)(aa:Array Value)(k:Ad),a' = ⟨aa,[]⟩∧Kn 25 [(d,e+(0:Int).toNat*1)] [tI 4 x_v10,tI 3 x_v11,tS 0 a_x x.length c_x] aa∧Ah ⟨w,h,Az⟩ k [(d,e+(0:Int).toNat*1)] [⟨[.int .i64 x10],none⟩] [] w'∧Ad.le h k∧BU a6 x x_v10 x_v11=some g) n ?_ ?_
   ·
    exact QY 1 ⟨x10,_,_,rfl,an.kp,s,Ad.le_refl _,ac⟩
   ·
    rintro y _ bm ⟨x_v10,x_v11,aa,k,rfl,ao,f,q,a⟩
    clear ac
    obtain _ | y:=y
    ·
     rw [BU] at a; cases a
    rw [BU] at a
    replace hr_x:=hr_x.mono q
    refine QT (QT (Ab (Rk 0 4 [tB 15 (decide (x_v10<((x.length:Nat):Int))),tI 4 x_v10,tI 3 x_v11,tS 0 a_x x.length c_x] ao f fun bg p=>?_)))
    refine wf (wC (decide (x_v10<((x.length:Nat):Int))) p (fun l=>?_) (fun l=>?_))
    ·
     rw [l,QW] at a
     refine wp_skip (QT (wp_block (Ab (Rk 0 3 [tI 20 x_v10,tS 19 a_x x.length c_x,tI 18 x_v11,tI 4 x_v10,tS 0 a_x x.length c_x] p f fun bh ap=>?_))))
     obtain⟨x21,ex21,a⟩:=A3 a
     obtain⟨az,a1,a5⟩:=Ak ex21
     obtain⟨ab,af,ba,ah,a3,aj⟩:=hr_x.get (by decide) a5
     obtain rfl:=a3
     have u:=f.addPlc (b:=ab) (o:=af+(x_v10:Int).toNat*1) (cs:=[.int .i64 x21]) (fun j c hj=>aj j _ (Al hj)) rfl (by kernel_rfl) (by kernel_rfl)
     refine A6 3 (x_v10) rfl rfl (rfl) rfl (by decide) ap (by rfl) (by rfl) (by rfl) ah (by rfl) az a1 (by kernel_rfl) fun a8 (aq:Kn 25 [(d,e+(0:Int).toNat*1),(ab,af+(x_v10:Int).toNat*1)] [tP 21 1 0,tI 20 x_v10,tS 19 a_x x.length c_x,tI 18 x_v11,tI 4 x_v10,tS 0 a_x x.length c_x] a8)=>?_
     refine Rk 4 3 [tI 3 (if x21>x_v11 then x21 else x_v11),tI 4 x_v10,tS 0 a_x x.length c_x] aq u fun bi ar=>?_
     refine wf (Ab (Rk 0 3 [tI 4 (IntKind.i64.wrap (x_v10+1)),tI 3 (if x21>x_v11 then x21 else x_v11),tS 0 a_x x.length c_x] ar u fun bj au=>?_))
     refine wf ?_
     exact QY y ⟨Nat.lt_succ_self _,QY (IntKind.i64.wrap (x_v10+1)) ⟨(if x21>x_v11 then x21 else x_v11),_,_,rfl,(au.keep [4,3,0] (by rfl)).cut 1 (by kernel_rfl),u.cutPl 1 (by kernel_rfl),q,a⟩⟩
    ·
     rw [l,QV] at a
     refine wp_exit ?_
     obtain rfl:=QZ a
     exact QY _ ⟨_,rfl,p.kp,f,q⟩
  ·
   rintro _ bn ⟨z,i,rfl,av,ae,bb⟩
   refine QT (Ab (Rk 0 2 [tI 2 g] av ae fun bl aw=>?_))
   refine wf (wp_ret ?_)
   obtain rfl:=QZ H
   exact rt (.one (.c (.int .i64 g))) aw ae rfl
set_option maxRecDepth 100000 in
set_option maxHeartbeats 4000000 in
theorem GR (n:Nat) {h:Ad} {w:World} (hh:Dv h w) (x:List Int) {a_x:Option Addr} {c_x:Nat} (hr_x:Ar h a_x c_x x) {r:Int} (H:Ds n x=some r) :
  Calls Try.prog 90 #[.slice a_x x.length c_x] w (D6 (fun h v=>v=.int .i64 r) h w):=by
 refine enter 25 [.c (.slice a_x x.length c_x)] Try.func90 rfl rfl rfl rfl fun t hk=>?_
 have hm:=Ah.begin h w hh
 unfold Ds at H
 refine QT (Ab (Rk 0 1 [tS 0 a_x x.length c_x] hk hm fun bc al=>?_))
 refine wf (QT (QT (Ab (Rk 0 3 [tB 7 (decide (((x.length:Nat):Int)<1)),tS 0 a_x x.length c_x] al hm fun bf ad=>?_))))
 refine wf (wC (decide (((x.length:Nat):Int)<1)) ad (fun m=>?_) (fun m=>?_))
 ·
  rw [m,QW] at H
  cases H
 ·
  rw [m,QV] at H
  refine wp_skip (QT (Ab (Rk 0 1 [tS 9 a_x x.length c_x,tS 0 a_x x.length c_x] ad hm fun bk ax=>?_)))
  obtain⟨x10,ex10,H⟩:=A3 H
  obtain⟨ay,a0,a4⟩:=Ak ex10
  obtain⟨d,e,a9,ag,a2,ai⟩:=hr_x.get (by decide) a4
  obtain rfl:=a2
  have s:=hm.addPlc (b:=d) (o:=e+(0:Int).toNat*1) (cs:=[.int .i64 x10]) (fun j c hj=>ai j _ (Al hj)) rfl (by kernel_rfl) (by kernel_rfl)
  refine A6 1 (0) rfl rfl (rfl) rfl (by decide) ax (by rfl) (by rfl) (by rfl) ag (by rfl) ay a0 (by kernel_rfl) fun a7 (ak:Kn 25 [(d,e+(0:Int).toNat*1)] [tP 10 0 0,tS 9 a_x x.length c_x,tS 0 a_x x.length c_x] a7)=>?_
  refine Rk 2 2 [tI 3 x10,tS 0 a_x x.length c_x] ak s fun bd am=>?_
  refine wf (QT (QT (Ab (Rk 0 1 [tI 4 1,tI 3 x10,tS 0 a_x x.length c_x] am s fun be an=>?_))))
  refine wf ?_
  obtain⟨g,ac,H⟩:=A3 H
  refine A7 (fun a' w'=>∃ (z:Array Value)(i:Ad),a' = ⟨z,[]⟩∧Kn 25 [(d,e+(0:Int).toNat*1)] [tI 3 g] z∧Ah ⟨w,h,Az⟩ i [(d,e+(0:Int).toNat*1)] [⟨[.int .i64 x10],none⟩] [] w'∧Ad.le h i) ?_ ?_
  ·
   refine wp_block ?_
   refine A5 (fun a6 a' w'=>∃ (x_v10:Int)(x_v11:Int)(aa:Array Value)(k:Ad),a' = ⟨aa,[]⟩∧Kn 25 [(d,e+(0:Int).toNat*1)] [tI 4 x_v10,tI 3 x_v11,tS 0 a_x x.length c_x] aa∧Ah ⟨w,h,Az⟩ k [(d,e+(0:Int).toNat*1)] [⟨[.int .i64 x10],none⟩] [] w'∧Ad.le h k∧Br a6 x x_v10 x_v11=some g) n ?_ ?_
   ·
    exact QY 1 ⟨x10,_,_,rfl,an.kp,s,Ad.le_refl _,ac⟩
   ·
    rintro y _ bm ⟨x_v10,x_v11,aa,k,rfl,ao,f,q,a⟩
    clear ac
    obtain _ | y:=y
    ·
     rw [Br] at a; cases a
    rw [Br] at a
    replace hr_x:=hr_x.mono q
    refine QT (QT (Ab (Rk 0 4 [tB 15 (decide (x_v10<((x.length:Nat):Int))),tI 4 x_v10,tI 3 x_v11,tS 0 a_x x.length c_x] ao f fun bg p=>?_)))
    refine wf (wC (decide (x_v10<((x.length:Nat):Int))) p (fun l=>?_) (fun l=>?_))
    ·
     rw [l,QW] at a
     refine wp_skip (QT (wp_block (Ab (Rk 0 3 [tI 20 x_v10,tS 19 a_x x.length c_x,tI 18 x_v11,tI 4 x_v10,tS 0 a_x x.length c_x] p f fun bh ap=>?_))))
     obtain⟨x21,ex21,a⟩:=A3 a
     obtain⟨az,a1,a5⟩:=Ak ex21
     obtain⟨ab,af,ba,ah,a3,aj⟩:=hr_x.get (by decide) a5
     obtain rfl:=a3
     have u:=f.addPlc (b:=ab) (o:=af+(x_v10:Int).toNat*1) (cs:=[.int .i64 x21]) (fun j c hj=>aj j _ (Al hj)) rfl (by kernel_rfl) (by kernel_rfl)
     refine A6 3 (x_v10) rfl rfl (rfl) rfl (by decide) ap (by rfl) (by rfl) (by rfl) ah (by rfl) az a1 (by kernel_rfl) fun a8 (aq:Kn 25 [(d,e+(0:Int).toNat*1),(ab,af+(x_v10:Int).toNat*1)] [tP 21 1 0,tI 20 x_v10,tS 19 a_x x.length c_x,tI 18 x_v11,tI 4 x_v10,tS 0 a_x x.length c_x] a8)=>?_
     refine Rk 4 3 [tI 3 (if x21<x_v11 then x21 else x_v11),tI 4 x_v10,tS 0 a_x x.length c_x] aq u fun bi ar=>?_
     refine wf (Ab (Rk 0 3 [tI 4 (IntKind.i64.wrap (x_v10+1)),tI 3 (if x21<x_v11 then x21 else x_v11),tS 0 a_x x.length c_x] ar u fun bj au=>?_))
     refine wf ?_
     exact QY y ⟨Nat.lt_succ_self _,QY (IntKind.i64.wrap (x_v10+1)) ⟨(if x21<x_v11 then x21 else x_v11),_,_,rfl,(au.keep [4,3,0] (by rfl)).cut 1 (by kernel_rfl),u.cutPl 1 (by kernel_rfl),q,a⟩⟩
    ·
     rw [l,QV] at a
     refine wp_exit ?_
     obtain rfl:=QZ a
     exact QY _ ⟨_,rfl,p.kp,f,q⟩
  ·
   rintro _ bn ⟨z,i,rfl,av,ae,bb⟩
   refine QT (Ab (Rk 0 2 [tI 2 g] av ae fun bl aw=>?_))
   refine wf (wp_ret ?_)
   obtain rfl:=QZ H
   exact rt (.one (.c (.int .i64 g))) aw ae rfl
set_option maxRecDepth 100000 in
set_option maxHeartbeats 4000000 in
theorem FI (n:Nat) {h:Ad} {w:World} (hh:Dv h w) (l:List Int) {a_l:Option Addr} {c_l:Nat} (hr_l:Ar h a_l c_l l) {r:Int} (H:Eu n l=some r) :
  Calls Try.prog 57 #[.slice a_l l.length c_l] w (D6 (fun h v=>v=.int .i64 r) h w):=by
 refine enter 5 [.c (.slice a_l l.length c_l)] Try.func57 rfl rfl rfl rfl fun t hk=>?_
 have hm:=Ah.begin h w hh
 unfold Eu at H
 refine QT (Ab (Rk 0 1 [tS 0 a_l l.length c_l] hk hm fun m f=>?_))
 refine wf (QT (Ab (Rk 0 1 [tS 3 a_l l.length c_l] f hm fun p g=>?_)))
 obtain⟨x4,ex4,H⟩:=A3 H
 refine wl fun K hK=>?_
 refine wc [.c (.slice a_l l.length c_l)] g hm (GQ n hm.has l hr_l ex4) fun q j s b k a=>?_
 obtain rfl:=b
 refine⟨.one (.c (.int .i64 x4)),rfl,fun i (d:Kn 5 [] [tI 4 x4,tS 3 a_l l.length c_l] i)=>hK _ _ ?_⟩
 refine Rk 2 1 [tI 2 x4] d a fun o e=>?_
 refine wf (wp_ret ?_)
 obtain rfl:=QZ H
 exact rt (.one (.c (.int .i64 x4))) e a rfl
set_option maxRecDepth 100000 in
set_option maxHeartbeats 4000000 in
theorem DW (n:Nat) {h:Ad} {w:World} (hh:Dv h w) (l:List Int) {a_l:Option Addr} {c_l:Nat} (hr_l:Ar h a_l c_l l) {r:Int} (H:Cd n l=some r) :
  Calls Try.prog 59 #[.slice a_l l.length c_l] w (D6 (fun h v=>v=.int .i64 r) h w):=by
 refine enter 5 [.c (.slice a_l l.length c_l)] Try.func59 rfl rfl rfl rfl fun t hk=>?_
 have hm:=Ah.begin h w hh
 unfold Cd at H
 refine QT (Ab (Rk 0 1 [tS 0 a_l l.length c_l] hk hm fun m f=>?_))
 refine wf (QT (Ab (Rk 0 1 [tS 3 a_l l.length c_l] f hm fun p g=>?_)))
 obtain⟨x4,ex4,H⟩:=A3 H
 refine wl fun K hK=>?_
 refine wc [.c (.slice a_l l.length c_l)] g hm (GR n hm.has l hr_l ex4) fun q j s b k a=>?_
 obtain rfl:=b
 refine⟨.one (.c (.int .i64 x4)),rfl,fun i (d:Kn 5 [] [tI 4 x4,tS 3 a_l l.length c_l] i)=>hK _ _ ?_⟩
 refine Rk 2 1 [tI 2 x4] d a fun o e=>?_
 refine wf (wp_ret ?_)
 obtain rfl:=QZ H
 exact rt (.one (.c (.int .i64 x4))) e a rfl
abbrev KO (x6:List Int) (a_marks:Option Addr) (c_marks:Nat) (marks:List Int):TM:=[tI 7 ((x6.length:Nat):Int),tS 6 (I3 1 a_marks c_marks (1:Int).toNat) x6.length (c_marks-(1:Int).toNat),tS 0 a_marks marks.length c_marks]
abbrev MW (x_v10:Int) (x6:List Int) (a_marks:Option Addr) (c_marks:Nat) (x_v11:Int) (marks:List Int):TM:=[tI 8 x_v10,tI 7 ((x6.length:Nat):Int),tS 6 (I3 1 a_marks c_marks (1:Int).toNat) x6.length (c_marks-(1:Int).toNat),tI 2 x_v11,tS 0 a_marks marks.length c_marks]
set_option maxRecDepth 100000 in
set_option maxHeartbeats 4000000 in
theorem KP (n:Nat) {h:Ad} {w:World} (hh:Dv h w) (marks:List Int) {a_marks:Option Addr} {c_marks:Nat} (hr_marks:Ar h a_marks c_marks marks) {r:Int} (H:GV n marks=some r) :
  Calls Try.prog 74 #[.slice a_marks marks.length c_marks] w (D6 (fun h v=>v=.int .i64 r) h w):=by
 refine enter 24 [.c (.slice a_marks marks.length c_marks)] Try.func74 rfl rfl rfl rfl fun t hk=>?_
 have hm:=Ah.begin h w hh
 unfold GV at H
 refine QT (Ab (Rk 0 1 [tI 2 0,tS 0 a_marks marks.length c_marks] hk hm fun b1 aw=>?_))
 refine wf (QT (QT (Ab (Rk 0 1 [tS 5 a_marks marks.length c_marks,tI 2 0,tS 0 a_marks marks.length c_marks] aw hm fun b4 az=>?_))))
 obtain⟨x6,ex6,H⟩:=A3 H
 obtain⟨be,bi,am⟩:=O5 ex6
 have ad:Ar h (I3 1 a_marks c_marks (1:Int).toNat) (c_marks-(1:Int).toNat) x6:=by rw [am]; exact Ar.drop (sz:=1) rfl hr_marks (by omega)
 have bc:marks.length-(1:Int).toNat=x6.length:=by rw [am,List.length_drop]
 refine Ph (E:=3) 1 1 _ az rfl rfl (rfl) rfl (by decide) (by rfl) (by rfl) (by kernel_rfl) (by kernel_rfl) be bi bc fun bq (au:Kn 24 [] [tS 6 (I3 1 a_marks c_marks (1:Int).toNat) x6.length (c_marks-(1:Int).toNat),tS 5 a_marks marks.length c_marks,tI 2 0,tS 0 a_marks marks.length c_marks] bq)=>?_
 refine Rk 2 2 [tI 8 0,tI 7 ((x6.length:Nat):Int),tS 6 (I3 1 a_marks c_marks (1:Int).toNat) x6.length (c_marks-(1:Int).toNat),tI 2 0,tS 0 a_marks marks.length c_marks] au hm fun b2 av=>?_
 refine wf ?_
 obtain⟨u,ag,H⟩:=A3 H
 refine A7 (fun a' w'=>∃ (ae:Array Value)(x:Ad),a' = ⟨ae,[]⟩∧Kn 24 [] [tI 2 u] ae∧Ah ⟨w,h,Az⟩ x [] [] [] w'∧Ad.le h x) ?_ ?_
 ·
  refine wp_block ?_
  refine A5 (fun bp a' w'=>∃ (x_v10:Int)(x_v11:Int)(af:Array Value)(e:Ad),a' = ⟨af,[]⟩∧Kn 24 [] (MW x_v10 x6 a_marks c_marks x_v11 marks) af∧Ah ⟨w,h,Az⟩ e [] [] [] w'∧Ad.le h e∧DD bp marks x6 x_v10 x_v11=some u) n ?_ ?_
  ·
   exact QY 0 ⟨0,_,_,rfl,av.kp,hm,Ad.le_refl _,ag⟩
  ·
   rintro s _ cd ⟨x_v10,x_v11,af,e,rfl,ax,p,m,a⟩
   clear ag
   obtain _ | s:=s
   ·
    rw [DD] at a; cases a
   rw [DD] at a
   replace hr_marks:=hr_marks.mono m
   replace ad:=ad.mono m
   refine QT (Ab (Rk 0 1 ((tB 9 (decide (x_v10<((x6.length:Nat):Int))))::(MW x_v10 x6 a_marks c_marks x_v11 marks)) ax p fun b3 aa=>?_))
   refine wf (QT (wC (decide (x_v10<((x6.length:Nat):Int))) aa (fun y=>?_) (fun y=>?_)))
   ·
    rw [y,QW] at a
    refine wp_skip (QT (wp_block (QT (Ab (Rk 0 1 ((tI 10 x_v10)::(MW x_v10 x6 a_marks c_marks x_v11 marks)) aa p fun b5 ay=>?_)))))
    obtain⟨x11,ex11,a⟩:=A3 a
    obtain⟨bd,bg,bn⟩:=Ak ex11
    obtain⟨d,f,bw,ao,bl,aq⟩:=ad.get (by decide) bn
    obtain rfl:=bl
    have ab:=p.addPlc (b:=d) (o:=f+(x_v10:Int).toNat*1) (cs:=[.int .i64 x11]) (fun j c hj=>aq j _ (Al hj)) rfl (by kernel_rfl) (by kernel_rfl)
    refine A6 1 (x_v10) rfl rfl (rfl) rfl (by decide) ay (by rfl) (by rfl) (by rfl) ao (by rfl) bd bg (by kernel_rfl) fun br (a0:Kn 24 [(d,f+(x_v10:Int).toNat*1)] ((tP 11 0 0)::(tI 10 x_v10)::(MW x_v10 x6 a_marks c_marks x_v11 marks)) br)=>?_
    refine Rk 2 3 ((tI 4 x11)::(tI 3 x_v10)::(MW x_v10 x6 a_marks c_marks x_v11 marks)) a0 ab fun b6 a1=>?_
    refine wf (Ab (Rk 0 4 ((tI 16 x_v10)::(tS 15 a_marks marks.length c_marks)::(tI 14 x11)::(tI 13 x_v11)::(tI 8 x_v10)::(KO x6 a_marks c_marks marks)) a1 ab fun b7 a2=>?_))
    obtain⟨x17,ex17,a⟩:=A3 a
    obtain⟨bf,bh,bo⟩:=Ak ex17
    obtain⟨k,l,bx,ap,bm,ar⟩:=hr_marks.get (by decide) bo
    obtain rfl:=bm
    have aj:=ab.addPlc (b:=k) (o:=l+(x_v10:Int).toNat*1) (cs:=[.int .i64 x17]) (fun j c hj=>ar j _ (Al hj)) rfl (by kernel_rfl) (by kernel_rfl)
    refine A6 4 (x_v10) rfl rfl (rfl) rfl (by decide) a2 (by rfl) (by rfl) (by rfl) ap (by rfl) bf bh (by kernel_rfl) fun bs (a3:Kn 24 [(d,f+(x_v10:Int).toNat*1),(k,l+(x_v10:Int).toNat*1)] ((tP 17 1 0)::(tI 16 x_v10)::(tS 15 a_marks marks.length c_marks)::(tI 14 x11)::(tI 13 x_v11)::(tI 8 x_v10)::(KO x6 a_marks c_marks marks)) bs)=>?_
    refine Rk 5 2 ((tI 19 (IntKind.i64.wrap (x11-x17)))::(tI 13 x_v11)::(tI 8 x_v10)::(KO x6 a_marks c_marks marks)) a3 aj fun b8 a4=>?_
    refine wl fun K hK=>?_
    refine wS 3 1 [.int .i64 x_v11,.int .i64 (IntKind.i64.wrap (x11-x17))] a4 aj fun g bt bv (a5:Kn 24 [(d,f+(x_v10:Int).toNat*1),(k,l+(x_v10:Int).toNat*1)] ((tS 20 g 2 2)::(tI 19 (IntKind.i64.wrap (x11-x17)))::(tI 13 x_v11)::(tI 8 x_v10)::(KO x6 a_marks c_marks marks)) bt) ak=>?_
    have z:Af e ([x_v11,IntKind.i64.wrap (x11-x17)]:List Int) ([.int .i64 x_v11,.int .i64 (IntKind.i64.wrap (x11-x17))]:List Value):=⟨_,_,rfl,(Ac:rep e (x_v11:Int) _),⟨_,_,rfl,(Ac:rep e (IntKind.i64.wrap (x11-x17):Int) _),rfl⟩⟩
    refine hK _ _ ?_
    obtain⟨ah,ai,bk,q⟩:=ak.settle (i:=0) rfl
    replace z:=z.mono ai
    replace q:Ah ⟨w,h,Az⟩ ah [(d,f+(x_v10:Int).toNat*1),(k,l+(x_v10:Int).toNat*1)] [⟨[.int .i64 x11],none⟩,⟨[.int .i64 x17],none⟩] [⟨g,2,2,3,1,([.int .i64 x_v11,.int .i64 (IntKind.i64.wrap (x11-x17))]:List Value),(([.int .i64 x_v11,.int .i64 (IntKind.i64.wrap (x11-x17))]:List Value):List Value).length⟩] bv:=q
    have bj:Ar ah g 2 ([x_v11,IntKind.i64.wrap (x11-x17)]:List Int):=⟨_,z,bk,ak.rowCap (i:=0) rfl⟩
    obtain⟨x21,ex21,a⟩:=A3 a
    refine wl fun K hK=>?_
    refine wc [.c (.slice g 2 2)] a5 q (FI s q.has ([x_v11,IntKind.i64.wrap (x11-x17)]:List Int) bj ex21) fun cc bz ce an bb ac=>?_
    obtain rfl:=an
    refine⟨.one (.c (.int .i64 x21)),rfl,fun bu (a6:Kn 24 [(d,f+(x_v10:Int).toNat*1),(k,l+(x_v10:Int).toNat*1)] ((tI 21 x21)::(tS 20 g 2 2)::(tI 19 (IntKind.i64.wrap (x11-x17)))::(tI 13 x_v11)::(tI 8 x_v10)::(KO x6 a_marks c_marks marks)) bu)=>hK _ _ ?_⟩
    refine Rk 9 1 ((tI 2 x21)::(tI 8 x_v10)::(KO x6 a_marks c_marks marks)) a6 ac fun b9 a7=>?_
    refine wf (Ab (Rk 0 2 ((tI 8 (IntKind.i64.wrap (x_v10+1)))::(tI 2 x21)::(KO x6 a_marks c_marks marks)) a7 ac fun ca a8=>?_))
    refine wf ?_
    exact QY s ⟨Nat.lt_succ_self _,QY (IntKind.i64.wrap (x_v10+1)) ⟨x21,_,_,rfl,(a8.keep [8,7,6,2,0] (by rfl)).cut 0 (by kernel_rfl),(ac.cutRw 0).cutPl 0 (by kernel_rfl),QU m (QU ai bb),a⟩⟩
   ·
    rw [y,QV] at a
    refine wp_exit ?_
    obtain rfl:=QZ a
    exact QY _ ⟨_,rfl,aa.kp,p,m⟩
 ·
  rintro _ cf ⟨ae,x,rfl,a9,al,b0⟩
  refine QT (Ab (Rk 0 2 [tI 2 u] a9 al fun cb ba=>?_))
  refine wf (wp_ret ?_)
  obtain rfl:=QZ H
  exact rt (.one (.c (.int .i64 u))) ba al rfl
abbrev Ij (x15:Rg):List SC:=[.int .i64 x15.lo,.int .i64 x15.hi]
abbrev Ik (x30:Ct):List SC:=[.int .i64 x30.tm.lo,.int .i64 x30.tm.hi]
abbrev BQ (r_:Ag):List SC:=[.int .i64 r_.turn.lo,.int .i64 r_.turn.hi]
abbrev Il:List SC:=[.slice none 0 0,.slice none 0 0,.slice none 0 0]
abbrev ER (x30:Ct):List SC:=[.int .i64 x30.stop,.int .i64 x30.tm.lo,.int .i64 x30.tm.hi]
abbrev As (p q s ac ad:Nat) (x_v24:Int) (ae:Nat):AG:=[(p,0),(q,0),(s,0),(ac,ad+(x_v24:Int).toNat*3),(ae,0)]
abbrev OR (aa:Option Addr) (x_v21:List Int) (ab:Nat) (y:Option Addr) (x_v22:List Int) (z:Nat) (u:Option Addr) (x_v23:List (List Int)) (x:Nat):List SC:=[.slice aa x_v21.length ab,.slice y x_v22.length z,.slice u x_v23.length x]
abbrev CU (af:Option Addr) (r_:Ag) (ag:Nat) (f:Option Addr) (g:Nat) (ah:Option Addr) (ai:Nat):List SC:=[.slice af r_.legs.length ag,.int .i64 r_.turn.lo,.int .i64 r_.turn.hi,.slice f r_.buses.length g,.slice ah r_.spares.length ai,.int .i64 r_.unit,.int .i64 r_.gap,.int .i64 r_.fr,.int .i64 r_.to_]
abbrev Cr (af:Option Addr) (r_:Ag) (ag:Nat) (f:Option Addr) (g:Nat) (ah:Option Addr) (ai:Nat) (m:Fn) (k l:Array Value) (aa:Option Addr) (x_v21:List Int) (ab:Nat) (y:Option Addr) (x_v22:List Int) (z:Nat) (u:Option Addr) (x_v23:List (List Int)) (x:Nat) (x30:Ct):List Cu:=[⟨CU af r_ ag f g ah ai,some 43⟩,⟨[.func m k l],some 132⟩,⟨OR aa x_v21 ab y x_v22 z u x_v23 x,some 76⟩,⟨ER x30,none⟩,⟨ER x30,some 96⟩]
abbrev IN (a:Option Addr) (x_v20:List Int) (d:Nat) (am:List Value) (ax:Nat) (aa:Option Addr) (x_v21:List Int) (ab:Nat) (al:List Value) (y:Option Addr) (x_v22:List Int) (z:Nat) (ap:List Value) (u:Option Addr) (x_v23:List (List Int)) (x:Nat) (aq:List Value):List Cf:=[⟨a,x_v20.length,d,3,1,am,ax⟩,⟨aa,x_v21.length,ab,3,1,al,0⟩,⟨y,x_v22.length,z,3,1,ap,0⟩,⟨u,x_v23.length,x,31,1,aq,0⟩,⟨none,0,0,3,1,[],0⟩,⟨none,0,0,3,1,[],0⟩,⟨none,0,0,31,1,[],0⟩]
abbrev B9 (x_v24:Int) (r_:Ag) (f:Option Addr) (g:Nat) (a:Option Addr) (x_v20:List Int) (d:Nat):TM:=[tI 28 x_v24,tI 27 ((r_.buses.length:Nat):Int),tS 26 f r_.buses.length g,tS 5 a x_v20.length d,tP 4 2 0,tP 3 1 0,tP 2 0 0]
abbrev D9 (a:Option Addr) (x_v20:List Int) (d:Nat) (u:Option Addr) (x_v23:List (List Int)) (x:Nat) (y:Option Addr) (x_v22:List Int) (z:Nat) (x30:Ct) (m:Fn) (k l:Array Value) (aa:Option Addr) (x_v21:List Int) (ab:Nat) (x_v24:Int) (r_:Ag) (f:Option Addr) (g:Nat):TM:=(tS 52 a x_v20.length d)::(tS 51 u x_v23.length x)::(tP 45 0 1)::(tP 43 1 0)::(tS 42 y x_v22.length z)::(tA 37 (Ik x30))::(35,.one (.c (.func m k l)))::(tS 33 aa x_v21.length ab)::(B9 x_v24 r_ f g a x_v20 d)
abbrev G4 (r_:Ag) (m:Fn) (k l:Array Value) (au:Option Addr) (x40:List Int) (av:Nat) (a:Option Addr) (x_v20:List Int) (d:Nat) (u:Option Addr) (x_v23:List (List Int)) (x:Nat) (y:Option Addr) (x_v22:List Int) (z:Nat) (x_v24:Int) (f:Option Addr) (g:Nat):TM:=(tA 46 (BQ r_))::(44,.one (.c (.func m k l)))::(tP 56 2 0)::(tS 40 au x40.length av)::(tS 52 a x_v20.length d)::(tS 51 u x_v23.length x)::(tS 42 y x_v22.length z)::(B9 x_v24 r_ f g a x_v20 d)
abbrev CZ (y:Option Addr) (x_v22:List Int) (z:Nat) (aa:Option Addr) (x_v21:List Int) (ab:Nat) (x_v24:Int) (r_:Ag) (f:Option Addr) (g:Nat) (a:Option Addr) (x_v20:List Int) (d:Nat):TM:=(tS 42 y x_v22.length z)::(tS 33 aa x_v21.length ab)::(B9 x_v24 r_ f g a x_v20 d)
abbrev HD (x_v11:Int) (r_:Ag) (af:Option Addr) (ag:Nat) (ay:Option Addr) (x_v10:List Int) (az:Nat):TM:=[tI 13 x_v11,tI 12 ((r_.legs.length:Nat):Int),tS 11 af r_.legs.length ag,tS 5 ay x_v10.length az,tP 4 2 0,tP 3 1 0,tP 2 0 0]
abbrev JX (x15:Rg) (m:Fn) (k l:Array Value) (ay:Option Addr) (x_v10:List Int) (az:Nat) (x_v11:Int) (r_:Ag) (af:Option Addr) (ag:Nat):TM:=[tA 20 (Ij x15),(19,.one (.c (.func m k l))),tS 17 ay x_v10.length az,tI 13 x_v11,tI 12 ((r_.legs.length:Nat):Int),tS 11 af r_.legs.length ag,tP 4 2 0,tP 3 1 0,tP 2 0 0]
abbrev FJ (x_v32:Int) (r_:Ag) (an:Option Addr) (x_v30:List Int) (ao:Nat):TM:=[tI 63 x_v32,tI 62 ((r_.spares.length:Nat):Int),tS 5 an x_v30.length ao,tP 4 2 0]
set_option maxRecDepth 100000 in
set_option maxHeartbeats 4000000 in
theorem Av (n:Nat) {h:Ad} {w:World} (hh:Dv h w) (r_:Ag) {cs_r_:List Value} (hx_r_:rep h r_ cs_r_) (e:Gl) {cs_e:List Value} (hx_e:rep h e cs_e) {r:AB} (H:Bw n r_ e=some r) :
  Calls Try.prog 67 #[.agg cs_r_.toArray,.agg cs_e.toArray] w (OA (fun h v rs=>∃ (gw:Option Addr)(g5:Nat)(iz:List Value)(af:Option Addr)(g6:Nat)(i0:List Value)(gx:Option Addr)(ag:Nat)(i1:List Value),v=.agg #[.slice gw r.tm.length g5,.slice af r.turns.length g6,.slice gx r.legs.length ag]∧rs=[⟨gw,r.tm.length,g5,3,1,iz,0⟩,⟨af,r.turns.length,g6,3,1,i0,0⟩,⟨gx,r.legs.length,ag,31,1,i1,0⟩]∧Af h r.tm iz∧Af h r.turns i0∧Af h r.legs i1) h w):=by
 obtain⟨_,_,rfl,⟨af,ag,rfl,bd⟩,⟨_,_,rfl,⟨_,_,rfl,rfl,rfl⟩,⟨_,_,rfl,⟨f,g,rfl,be⟩,⟨_,_,rfl,⟨ah,ai,rfl,bf⟩,⟨_,_,rfl,rfl,⟨_,_,rfl,rfl,⟨_,_,rfl,rfl,rfl⟩⟩⟩⟩⟩⟩⟩:=hx_r_
 obtain⟨m,k,l,rfl,aw⟩:=hx_e
 refine enter 74 [.agg (CU af r_ ag f g ah ai),.agg [.func m k l]] Try.func67 rfl rfl rfl rfl fun t hk=>?_
 have hm:=Ah.begin h w hh
 unfold Bw at H
 refine QT (Ab (wl fun K hK=>?_))
 refine wb (.agg (CU af r_ ag f g ah ai)) hk hm fun p n9 qt (kk:Kn 74 [(p,0)] [tP 2 0 0,tA 0 (CU af r_ ag f g ah ai),tA 1 [.func m k l]] n9) ng=>hK _ _ ?_
 refine wl fun K hK=>?_
 refine wb (.agg [.func m k l]) kk ng fun q ob qw (ks:Kn 74 [(p,0),(q,0)] [tP 3 1 0,tP 2 0 0,tA 0 (CU af r_ ag f g ah ai),tA 1 [.func m k l]] ob) nk=>hK _ _ ?_
 refine wl fun K hK=>?_
 refine wa Il ks nk fun s ix pn (ky:Kn 74 [(p,0),(q,0),(s,0)] [tP 4 2 0,tP 3 1 0,tP 2 0 0,tA 0 (CU af r_ ag f g ah ai),tA 1 [.func m k l]] ix) fn=>hK _ _ ?_
 have k3:Kn 74 [(p,0),(q,0),(s,0)] [tP 4 2 0,tP 3 1 0,tP 2 0 0] ix:=ky.kp
 refine wf (QT (Ab (Rk 0 1 [tS 5 none 0 0,tP 4 2 0,tP 3 1 0,tP 2 0 0] k3 fn fun p7 k9=>?_)))
 refine wf (QT (QT (Ab (Rk 0 4 [tI 13 0,tI 12 ((r_.legs.length:Nat):Int),tS 11 af r_.legs.length ag,tS 5 none 0 0,tP 4 2 0,tP 3 1 0,tP 2 0 0] k9 fn fun p8 lc=>?_))))
 refine wf ?_
 have nl:Ah ⟨w,h,Az⟩ h [(p,0),(q,0),(s,0)] [⟨CU af r_ ag f g ah ai,some 43⟩,⟨[.func m k l],some 132⟩,⟨Il,some 76⟩] [⟨none,0,0,3,1,[],0⟩] pn:=fn.nilRow 3 1
 have jw:Af h ([]:List Int) []:=Af.nil
 obtain⟨bn,g9,H⟩:=A3 H
 refine A7 (fun a' w'=>∃ (bo:Option Addr)(bq:Nat)(ce:List Value)(gn:Array Value)(a9:Ad),a' = ⟨gn,[]⟩∧Kn 74 [(p,0),(q,0),(s,0)] [tS 5 bo bn.length bq,tP 4 2 0,tP 3 1 0,tP 2 0 0] gn∧Ah ⟨w,h,Az⟩ a9 [(p,0),(q,0),(s,0)] [⟨CU af r_ ag f g ah ai,some 43⟩,⟨[.func m k l],some 132⟩,⟨Il,some 76⟩] [⟨bo,bn.length,bq,3,1,ce,0⟩] w'∧Ad.le h a9∧Af a9 bn ce) ?_ ?_
 ·
  refine wp_block ?_
  refine A5 (fun n6 a' w'=>∃ (x_v10:List Int)(x_v11:Int)(ay:Option Addr)(az:Nat)(co:List Value)(go:Array Value)(c9:Ad),a' = ⟨go,[]⟩∧Kn 74 [(p,0),(q,0),(s,0)] (HD x_v11 r_ af ag ay x_v10 az) go∧Ah ⟨w,h,Az⟩ c9 [(p,0),(q,0),(s,0)] [⟨CU af r_ ag f g ah ai,some 43⟩,⟨[.func m k l],some 132⟩,⟨Il,some 76⟩] [⟨ay,x_v10.length,az,3,1,co,0⟩] w'∧Ad.le h c9∧Af c9 x_v10 co∧BV n6 r_ e x_v10 x_v11=some bn) n ?_ ?_
  ·
   exact QY ([]:List Int) ⟨0,none,0,[],_,_,rfl,lc.kp,nl,Ad.le_refl _,jw,g9⟩
  ·
   rintro f9 _ rr ⟨x_v10,x_v11,ay,az,co,go,c9,rfl,mb,fu,cl,dx,a6⟩
   clear g9
   obtain _ | f9:=f9
   ·
    rw [BV] at a6; cases a6
   rw [BV] at a6
   replace bd:=bd.mono cl
   replace be:=be.mono cl
   replace bf:=bf.mono cl
   replace aw:=aw.mono cl
   refine QT (Ab (Rk 0 1 ((tB 14 (decide (x_v11<((r_.legs.length:Nat):Int))))::(HD x_v11 r_ af ag ay x_v10 az)) mb fu fun qg fd=>?_))
   refine wf (QT (wC (decide (x_v11<((r_.legs.length:Nat):Int))) fd (fun e1=>?_) (fun e1=>?_)))
   ·
    rw [e1,QW] at a6
    refine wp_skip (QT (wp_block (QT (Ab ?_))))
    obtain⟨x15,ex15,a6⟩:=A3 a6
    obtain⟨ns,nu,n4⟩:=Ak ex15
    obtain⟨b2,cc,pq,jj,n2,j6⟩:=bd.get (by decide) n4
    obtain⟨_,_,rfl,rfl,rfl⟩:=n2
    have ik:=fu.addPlc (b:=b2) (o:=cc+(x_v11:Int).toNat*2) (cs:=(Ij x15)) (fun j c hj=>j6 j _ (Al hj)) rfl (by kernel_rfl) (by kernel_rfl)
    refine A6 0 (x_v11) rfl rfl (rfl) rfl (by decide) fd (by rfl) (by rfl) (by rfl) jj (by rfl) ns nu (by kernel_rfl) fun pj (mq:Kn 74 [(p,0),(q,0),(s,0),(b2,cc+(x_v11:Int).toNat*2)] ((tP 15 3 0)::(tB 14 (decide (x_v11<((r_.legs.length:Nat):Int))))::(HD x_v11 r_ af ag ay x_v10 az)) pj)=>?_
    refine Rk 1 1 ((tA 16 (Ij x15))::(HD x_v11 r_ af ag ay x_v10 az)) mq ik fun qi mr=>?_
    refine wl fun K hK=>?_
    refine wa [.int .i64 0,.int .i64 0] mr ik fun cv iy r1 (ms:Kn 74 [(p,0),(q,0),(s,0),(b2,cc+(x_v11:Int).toNat*2),(cv,0)] ((tP 7 4 0)::(tA 16 (Ij x15))::(HD x_v11 r_ af ag ay x_v10 az)) iy) np=>hK _ _ ?_
    refine wl fun K hK=>?_
    refine Ea 4 0 (.agg (Ij x15)) (Ij x15) ms np fun r2 mt fx=>hK _ _ ?_
    have mu:Kn 74 [(p,0),(q,0),(s,0),(b2,cc+(x_v11:Int).toNat*2),(cv,0)] ((tP 7 4 0)::(HD x_v11 r_ af ag ay x_v10 az)) iy:=mt.kp
    refine wf (Ab (Rk 0 4 (JX x15 m k l ay x_v10 az x_v11 r_ af ag) mu fx fun qj mv=>?_))
    obtain⟨x21,ex21,a6⟩:=A3 a6
    refine wl fun K hK=>?_
    refine CN (.func m k l) [.agg (Ij x15)] _ mv fx rfl rfl (by decide) (by rfl) (by rfl) rfl (aw _ _ (Ad.le_refl _) fx.has x15 _ ((Aa Ac Ac):rep c9 x15 _) _ ex21) fun qr ey r3 jh hw nq=>?_
    replace dx:=dx.mono hw
    obtain rfl:=jh
    refine⟨.one (.c (.int .i64 x21)),rfl,fun pk (mw:Kn 74 [(p,0),(q,0),(s,0),(b2,cc+(x_v11:Int).toNat*2),(cv,0)] ((tI 21 x21)::(JX x15 m k l ay x_v10 az x_v11 r_ af ag)) pk)=>hK _ _ ?_⟩
    refine wl fun K hK=>?_
    refine wS 3 1 [.int .i64 x21] mw nq fun g4 pl r4 (mx:Kn 74 [(p,0),(q,0),(s,0),(b2,cc+(x_v11:Int).toNat*2),(cv,0)] ((tS 22 g4 1 1)::(tI 21 x21)::(JX x15 m k l ay x_v10 az x_v11 r_ af ag)) pl) il=>?_
    have e7:Af ey ([x21]:List Int) ([.int .i64 x21]:List Value):=⟨_,_,rfl,(Ac:rep ey (x21:Int) _),rfl⟩
    refine hK _ _ ?_
    obtain⟨x23,ex23,a6⟩:=A3 a6
    obtain⟨fy,my⟩:=BZ ex23
    refine wl fun K hK=>?_
    refine Bs 0 8 1 _ (x23.length) _ ([.int .i64 x21]:List Value) mx il rfl rfl (by decide) rfl (by rfl) (by kernel_rfl) (by rfl) (by rfl) (Af.len e7) (il.rowCell (i:=1) rfl) e7.one (by rw [fy]; simp <;> omega) (by rw [fy]; exact my) (by decide) fun dp dr i2 n8 qs j7 (kf:Kn 74 [(p,0),(q,0),(s,0),(b2,cc+(x_v11:Int).toNat*2),(cv,0)] ((tS 23 dp x23.length dr)::(tS 22 g4 1 1)::(tI 21 x21)::(JX x15 m k l ay x_v10 az x_v11 r_ af ag)) n8) fi=>?_
    have jk:Af ey x23 (co++([.int .i64 x21]:List Value)):=by rw [fy]; exact Af.append dx e7
    obtain rfl:i2=0:=Nat.le_zero.1 j7
    refine hK _ _ ?_
    refine Rk 7 1 [tS 5 dp x23.length dr,tI 13 x_v11,tI 12 ((r_.legs.length:Nat):Int),tS 11 af r_.legs.length ag,tP 4 2 0,tP 3 1 0,tP 2 0 0] kf fi fun pz kg=>?_
    refine wf (Ab (Rk 0 2 [tI 13 (IntKind.i64.wrap (x_v11+1)),tS 5 dp x23.length dr,tI 12 ((r_.legs.length:Nat):Int),tS 11 af r_.legs.length ag,tP 4 2 0,tP 3 1 0,tP 2 0 0] kg fi fun p0 kh=>?_))
    refine wf ?_
    exact QY f9 ⟨Nat.lt_succ_self _,QY x23 ⟨IntKind.i64.wrap (x_v11+1),dp,dr,co++([.int .i64 x21]:List Value),_,_,rfl,(kh.keep [13,12,11,5,4,3,2] (by rfl)).cut 3 (by kernel_rfl),(fi.cutRw 1).cutPl 3 (by kernel_rfl),QU cl hw,jk,a6⟩⟩
   ·
    rw [e1,QV] at a6
    refine wp_exit ?_
    obtain rfl:=QZ a6
    exact QY ay ⟨az,co,_,_,rfl,fd.kp,fu,cl,dx⟩
 ·
  rintro _ gu ⟨bo,bq,ce,gn,a9,rfl,ki,hx,dz,j2⟩
  replace bd:=bd.mono dz
  replace be:=be.mono dz
  replace bf:=bf.mono dz
  replace aw:=aw.mono dz
  refine QT (QT (Ab (Rk 0 4 [tI 28 0,tI 27 ((r_.buses.length:Nat):Int),tS 26 f r_.buses.length g,tS 5 bo bn.length bq,tP 4 2 0,tP 3 1 0,tP 2 0 0] ki hx fun p1 kj=>?_)))
  refine wf ?_
  have nc:Ah ⟨w,h,Az⟩ a9 [(p,0),(q,0),(s,0)] [⟨CU af r_ ag f g ah ai,some 43⟩,⟨[.func m k l],some 132⟩,⟨Il,some 76⟩] [⟨bo,bn.length,bq,3,1,ce,0⟩,⟨none,0,0,3,1,[],0⟩] gu:=hx.nilRow 3 1
  have jl:Af a9 ([]:List Int) []:=Af.nil
  have nd:Ah ⟨w,h,Az⟩ a9 [(p,0),(q,0),(s,0)] [⟨CU af r_ ag f g ah ai,some 43⟩,⟨[.func m k l],some 132⟩,⟨Il,some 76⟩] [⟨bo,bn.length,bq,3,1,ce,0⟩,⟨none,0,0,3,1,[],0⟩,⟨none,0,0,3,1,[],0⟩] gu:=nc.nilRow 3 1
  have jm:Af a9 ([]:List Int) []:=Af.nil
  have nf:Ah ⟨w,h,Az⟩ a9 [(p,0),(q,0),(s,0)] [⟨CU af r_ ag f g ah ai,some 43⟩,⟨[.func m k l],some 132⟩,⟨Il,some 76⟩] [⟨bo,bn.length,bq,3,1,ce,0⟩,⟨none,0,0,3,1,[],0⟩,⟨none,0,0,3,1,[],0⟩,⟨none,0,0,31,1,[],0⟩] gu:=nd.nilRow 31 1
  have jn:Af a9 ([]:List (List Int)) []:=Af.nil
  obtain⟨aj,g8,H⟩:=A3 H
  refine A7 (fun a' w'=>∃ (cp:Option Addr)(cw:Nat)(d8:List Value)(es:Nat)(a1:Option Addr)(a3:Nat)(cm:List Value)(a2:Option Addr)(a4:Nat)(cn:List Value)(dq:Option Addr)(ds:Nat)(d9:List Value)(ga:Array Value)(bl:Ad),a' = ⟨ga,[]⟩∧Kn 74 [(p,0),(q,0),(s,0)] [tS 5 cp aj.1.length cw,tP 4 2 0,tP 2 0 0] ga∧Ah ⟨w,h,Az⟩ bl [(p,0),(q,0),(s,0)] [⟨CU af r_ ag f g ah ai,some 43⟩,⟨[.func m k l],some 132⟩,⟨[.slice a1 aj.2.1.length a3,.slice a2 aj.2.2.1.length a4,.slice dq aj.2.2.2.length ds],some 76⟩] [⟨cp,aj.1.length,cw,3,1,d8,es⟩,⟨a1,aj.2.1.length,a3,3,1,cm,0⟩,⟨a2,aj.2.2.1.length,a4,3,1,cn,0⟩,⟨dq,aj.2.2.2.length,ds,31,1,d9,0⟩] w'∧Ad.le a9 bl∧Af bl aj.1 d8∧Af bl aj.2.1 cm∧Af bl aj.2.2.1 cn∧Af bl aj.2.2.2 d9) ?_ ?_
  ·
   refine wp_block ?_
   refine A5 (fun n5 a' w'=>∃ (x_v20:List Int)(x_v21:List Int)(x_v22:List Int)(x_v23:List (List Int))(x_v24:Int)(a:Option Addr)(d:Nat)(am:List Value)(ax:Nat)(aa:Option Addr)(ab:Nat)(al:List Value)(y:Option Addr)(z:Nat)(ap:List Value)(u:Option Addr)(x:Nat)(aq:List Value)(gb:Array Value)(ak:Ad),a' = ⟨gb,[]⟩∧Kn 74 [(p,0),(q,0),(s,0)] (B9 x_v24 r_ f g a x_v20 d) gb∧Ah ⟨w,h,Az⟩ ak [(p,0),(q,0),(s,0)] [⟨CU af r_ ag f g ah ai,some 43⟩,⟨[.func m k l],some 132⟩,⟨OR aa x_v21 ab y x_v22 z u x_v23 x,some 76⟩] [⟨a,x_v20.length,d,3,1,am,ax⟩,⟨aa,x_v21.length,ab,3,1,al,0⟩,⟨y,x_v22.length,z,3,1,ap,0⟩,⟨u,x_v23.length,x,31,1,aq,0⟩] w'∧Ad.le a9 ak∧Af ak x_v20 am∧Af ak x_v21 al∧Af ak x_v22 ap∧Af ak x_v23 aq∧BW n5 r_ e x_v20 x_v21 x_v22 x_v23 x_v24=some aj) n ?_ ?_
   ·
    exact QY bn ⟨([]:List Int),([]:List Int),([]:List (List Int)),0,bo,bq,ce,0,none,0,[],none,0,[],none,0,[],_,_,rfl,kj.kp,nf,Ad.le_refl _,j2,jl,jm,jn,g8⟩
   ·
    rintro d6 _ qu ⟨x_v20,x_v21,x_v22,x_v23,x_v24,a,d,am,ax,aa,ab,al,y,z,ap,u,x,aq,gb,ak,rfl,kl,fj,ck,b7,a5,du,dv,ar⟩
    clear g8
    obtain _ | d6:=d6
    ·
     rw [BW] at ar; cases ar
    rw [BW] at ar
    replace bd:=bd.mono ck
    replace be:=be.mono ck
    replace bf:=bf.mono ck
    replace aw:=aw.mono ck
    refine QT (Ab (Rk 0 1 ((tB 29 (decide (x_v24<((r_.buses.length:Nat):Int))))::(B9 x_v24 r_ f g a x_v20 d)) kl fj fun p2 e8=>?_))
    refine wf (QT (wC (decide (x_v24<((r_.buses.length:Nat):Int))) e8 (fun ez=>?_) (fun ez=>?_)))
    ·
     rw [ez,QW] at ar
     refine wp_skip (QT (wp_block (QT (Ab ?_))))
     obtain⟨x30,ex30,ar⟩:=A3 ar
     obtain⟨nr,nt,n3⟩:=Ak ex30
     obtain⟨ac,ad,pp,ji,n1,jq⟩:=be.get (by decide) n3
     obtain⟨_,_,rfl,rfl,⟨_,_,rfl,rfl,rfl⟩⟩:=n1
     have hy:=fj.addPlc (b:=ac) (o:=ad+(x_v24:Int).toNat*3) (cs:=(ER x30)) (fun j c hj=>jq j _ (Al hj)) rfl (by kernel_rfl) (by kernel_rfl)
     refine A6 0 (x_v24) rfl rfl (rfl) rfl (by decide) e8 (by rfl) (by rfl) (by rfl) ji (by rfl) nr nt (by kernel_rfl) fun oa (km:Kn 74 [(p,0),(q,0),(s,0),(ac,ad+(x_v24:Int).toNat*3)] ((tP 30 3 0)::(tB 29 (decide (x_v24<((r_.buses.length:Nat):Int))))::(B9 x_v24 r_ f g a x_v20 d)) oa)=>?_
     refine Rk 1 1 ((tA 31 (ER x30))::(B9 x_v24 r_ f g a x_v20 d)) km hy fun p3 kn=>?_
     refine wl fun K hK=>?_
     refine wa [.int .i64 0,.int .i64 0,.int .i64 0] kn hy fun ae iw qv (ko:Kn 74 (As p q s ac ad x_v24 ae) ((tP 9 4 0)::(tA 31 (ER x30))::(B9 x_v24 r_ f g a x_v20 d)) iw) nh=>hK _ _ ?_
     refine wl fun K hK=>?_
     refine Ea 4 0 (.agg (ER x30)) (ER x30) ko nh fun gv kq d1=>hK _ _ ?_
     have kr:Kn 74 (As p q s ac ad x_v24 ae) ((tP 9 4 0)::(B9 x_v24 r_ f g a x_v20 d)) iw:=kq.kp
     refine wf (Ao (by kernel_rfl) ?_)
     replace d1:=d1.drew
     refine At [12,14] (As p q s ac ad x_v24 ae) (Cr af r_ ag f g ah ai m k l aa x_v21 ab y x_v22 z u x_v23 x x30) ?_
     refine Dr [0,1,2,3,4,5,9,10,11,13,18,19,20] [20,19,18,13,11,10,9,5,4,3,2,1,0] (D9 a x_v20 d u x_v23 x y x_v22 z x30 m k l aa x_v21 ab x_v24 r_ f g) kr d1 fun p4 e9=>?_
     obtain⟨x38,ex38,ar⟩:=A3 ar
     obtain⟨x40,ex40,ar⟩:=A3 ar
     obtain⟨x47,ex47,ar⟩:=A3 ar
     obtain⟨x49,ex49,ar⟩:=A3 ar
     obtain⟨x53,ex53,ar⟩:=A3 ar
     obtain⟨x55,ex55,ar⟩:=A3 ar
     have ni:Ah ⟨w,h,Az⟩ ak (As p q s ac ad x_v24 ae) (Cr af r_ ag f g ah ai m k l aa x_v21 ab y x_v22 z u x_v23 x x30) [⟨a,x_v20.length,d,3,1,am,ax⟩,⟨aa,x_v21.length,ab,3,1,al,0⟩,⟨y,x_v22.length,z,3,1,ap,0⟩,⟨u,x_v23.length,x,31,1,aq,0⟩,⟨none,0,0,3,1,[],0⟩] (World.drew gv):=d1.nilRow 3 1
     have pu:Af ak ([]:List Int) []:=Af.nil
     have nj:Ah ⟨w,h,Az⟩ ak (As p q s ac ad x_v24 ae) (Cr af r_ ag f g ah ai m k l aa x_v21 ab y x_v22 z u x_v23 x x30) [⟨a,x_v20.length,d,3,1,am,ax⟩,⟨aa,x_v21.length,ab,3,1,al,0⟩,⟨y,x_v22.length,z,3,1,ap,0⟩,⟨u,x_v23.length,x,31,1,aq,0⟩,⟨none,0,0,3,1,[],0⟩,⟨none,0,0,3,1,[],0⟩] (World.drew gv):=ni.nilRow 3 1
     have pv:Af ak ([]:List Int) []:=Af.nil
     have a0:Ah ⟨w,h,Az⟩ ak (As p q s ac ad x_v24 ae) (Cr af r_ ag f g ah ai m k l aa x_v21 ab y x_v22 z u x_v23 x x30) (IN a x_v20 d am ax aa x_v21 ab al y x_v22 z ap u x_v23 x aq) (World.drew gv):=nj.nilRow 31 1
     have pw:Af ak ([]:List (List Int)) []:=Af.nil
     refine Bq (fun W=>∀ (au:Option Addr),∀ (av:Nat),∀ (dm:List Value),∀ (ef:Option Addr),∀ (el:Nat),∀ (ea:List Value),∀ a' w',(∃ (gc:Array Value)(cj:Ad),a' = ⟨gc,[]⟩∧Kn 74 (As p q s ac ad x_v24 ae) (G4 r_ m k l au x40 av a x_v20 d u x_v23 x y x_v22 z x_v24 f g) gc∧Ah ⟨w,h,Az⟩ cj (As p q s ac ad x_v24 ae) (Cr af r_ ag f g ah ai m k l aa x_v21 ab y x_v22 z u x_v23 x x30) [⟨a,x_v20.length,d,3,1,am,ax⟩,⟨au,x40.length,av,3,1,dm,0⟩,⟨y,x_v22.length,z,3,1,ap,0⟩,⟨u,x_v23.length,x,31,1,aq,0⟩,⟨ef,1,el,3,1,ea,0⟩,⟨none,0,0,3,1,[],0⟩,⟨none,0,0,31,1,[],0⟩] w'∧Ad.le ak cj∧Af cj x40 dm∧Af cj ([x38]:List Int) ea)→W (As p q s ac ad x_v24 ae) (Cr af r_ ag f g ah ai m k l aa x_v21 ab y x_v22 z u x_v23 x x30) [24,8,7,6,12,14,20,19,18,13,11,10,9,5,4,3,2,1,0] a' w') ?_ (fun f6=>?_)
     ·
      intro au av dm ef el ea
      rintro _ qx ⟨gc,cj,rfl,kt,hz,dg,e2,px⟩
      replace aw:=aw.mono dg
      refine Dl 15 fun K hK=>?_
      refine CN (.func m k l) [.agg (BQ r_)] _ kt hz rfl rfl (by decide) (by rfl) (by rfl) rfl (aw _ _ (Ad.le_refl _) hz.has r_.turn _ ((Aa Ac Ac):rep cj r_.turn _) _ ex47) fun qk eu qy ja dh h0=>?_
      replace du:=du.mono (QU dg dh)
      obtain rfl:=ja
      refine⟨.one (.c (.int .i64 x47)),rfl,fun oc (ku:Kn 74 (As p q s ac ad x_v24 ae) ((tI 47 x47)::(G4 r_ m k l au x40 av a x_v20 d u x_v23 x y x_v22 z x_v24 f g)) oc)=>hK _ _ h0.plOk ?_⟩
      refine Dl 16 fun K hK=>?_
      refine Cz 5 rfl rfl 3 1 [.int .i64 x47] ku h0 rfl rfl (by decide) (by kernel_rfl) (by rfl) (by rfl) rfl (by decide) fun cg od qz (kv:Kn 74 (As p q s ac ad x_v24 ae) ((tS 48 cg 1 1)::(tI 47 x47)::(G4 r_ m k l au x40 av a x_v20 d u x_v23 x y x_v22 z x_v24 f g)) od) fk=>?_
      have e3:Af eu ([x47]:List Int) ([.int .i64 x47]:List Value):=⟨_,_,rfl,(Ac:rep eu (x47:Int) _),rfl⟩
      refine hK _ _ fk.plOk ?_
      refine Dl 17 fun K hK=>?_
      obtain⟨fz,mz⟩:=BZ ex49
      refine Bs 2 8 1 _ (x49.length) _ ([.int .i64 x47]:List Value) kv fk rfl rfl (by decide) rfl (by rfl) (by kernel_rfl) (by rfl) (by rfl) (Af.len e3) (fk.rowCell (i:=5) rfl) e3.one (by rw [fz]; simp <;> omega) (by rw [fz]; exact mz) (by decide) fun a7 a8 i3 oe pm j8 (kw:Kn 74 (As p q s ac ad x_v24 ae) ((tS 49 a7 x49.length a8)::(tS 48 cg 1 1)::(tI 47 x47)::(G4 r_ m k l au x40 av a x_v20 d u x_v23 x y x_v22 z x_v24 f g)) oe) fl=>?_
      have e4:Af eu x49 (ap++([.int .i64 x47]:List Value)):=by rw [fz]; exact Af.append du e3
      obtain rfl:i3=0:=Nat.le_zero.1 j8
      refine hK _ _ fl.plOk ?_
      refine Dl 21 fun K hK=>?_
      obtain⟨hc,di,nz,d2⟩:=fl.settle (i:=0) rfl
      replace b7:=b7.mono (QU (QU dg dh) di)
      replace d2:Ah ⟨w,h,Az⟩ hc (As p q s ac ad x_v24 ae) (Cr af r_ ag f g ah ai m k l aa x_v21 ab y x_v22 z u x_v23 x x30) [⟨a,x_v20.length,d,3,1,am,(am:List Value).length⟩,⟨au,x40.length,av,3,1,dm,0⟩,⟨a7,x49.length,a8,3,1,ap++([.int .i64 x47]:List Value),0⟩,⟨u,x_v23.length,x,31,1,aq,0⟩,⟨ef,1,el,3,1,ea,0⟩,⟨cg,1,1,3,1,([.int .i64 x47]:List Value),0⟩,⟨none,0,0,31,1,[],0⟩] pm:=d2
      have nv:Ar hc a d x_v20:=⟨_,b7,nz,fl.rowCap (i:=0) rfl⟩
      refine wc [.c (.slice a x_v20.length d)] kw d2 (Co d6 d2.has x_v20 nv ex53) fun ql ev q0 jb dj h1=>?_
      replace b7:=b7.mono dj
      replace e2:=e2.mono (QU (QU dh di) dj)
      replace e4:=e4.mono (QU di dj)
      replace dv:=dv.mono (QU (QU (QU dg dh) di) dj)
      obtain⟨bh,bj,rfl,nw⟩:=jb
      refine⟨.one (.c (.slice bh x53.length bj)),rfl,fun og (kx:Kn 74 (As p q s ac ad x_v24 ae) ((tS 53 bh x53.length bj)::(tS 49 a7 x49.length a8)::(tS 48 cg 1 1)::(tI 47 x47)::(G4 r_ m k l au x40 av a x_v20 d u x_v23 x y x_v22 z x_v24 f g)) og)=>hK _ _ h1.plOk ?_⟩
      refine Dl 22 fun K hK=>?_
      refine Cz 6 rfl rfl 31 1 [.slice bh x53.length bj] kx h1 rfl rfl (by decide) (by kernel_rfl) (by rfl) (by rfl) rfl (by decide) fun gy oh q1 (kz:Kn 74 (As p q s ac ad x_v24 ae) ((tS 54 gy 1 1)::(tS 53 bh x53.length bj)::(tS 49 a7 x49.length a8)::(tS 48 cg 1 1)::(tI 47 x47)::(G4 r_ m k l au x40 av a x_v20 d u x_v23 x y x_v22 z x_v24 f g)) oh) fm=>?_
      have e5:Af ev ([x53]:List (List Int)) ([.slice bh x53.length bj]:List Value):=⟨_,_,rfl,((Ae nw):rep ev (x53:List Int) _),rfl⟩
      refine hK _ _ fm.plOk ?_
      refine Dl 23 fun K hK=>?_
      obtain⟨f0,m0⟩:=BZ ex55
      refine Bs 3 24 1 _ (x55.length) _ ([.slice bh x53.length bj]:List Value) kz fm rfl rfl (by decide) rfl (by rfl) (by kernel_rfl) (by rfl) (by rfl) (Af.len e5) (fm.rowCell (i:=6) rfl) e5.one (by rw [f0]; simp <;> omega) (by rw [f0]; exact m0) (by decide) fun bx b3 i4 oi q2 j9 (k0:Kn 74 (As p q s ac ad x_v24 ae) ((tS 55 bx x55.length b3)::(tS 54 gy 1 1)::(tS 53 bh x53.length bj)::(tS 49 a7 x49.length a8)::(tS 48 cg 1 1)::(tI 47 x47)::(G4 r_ m k l au x40 av a x_v20 d u x_v23 x y x_v22 z x_v24 f g)) oi) h2=>?_
      have jr:Af ev x55 (aq++([.slice bh x53.length bj]:List Value)):=by rw [f0]; exact Af.append dv e5
      obtain rfl:i4=0:=Nat.le_zero.1 j9
      refine hK _ _ h2.plOk ?_
      refine DG 25 rfl (by kernel_rfl) (by decide) (rfl) (by kernel_rfl) fun K hK=>?_
      refine Ea 2 0 (.c (.slice au x40.length av)) [.slice au x40.length av,.slice y x_v22.length z,.slice u x_v23.length x] k0 h2 fun q3 k1 h3=>hK _ _ ?_
      refine At [12,14] (As p q s ac ad x_v24 ae) [⟨CU af r_ ag f g ah ai,some 43⟩,⟨[.func m k l],some 132⟩,⟨[.slice au x40.length av,.slice y x_v22.length z,.slice u x_v23.length x],some 76⟩,⟨ER x30,none⟩,⟨ER x30,some 96⟩] ?_
      refine Dr [26] [26,25,23,22,21,17,16,15,24,8,7,6,12,14,20,19,18,13,11,10,9,5,4,3,2,1,0] ((tP 57 2 1)::(tS 55 bx x55.length b3)::(tS 49 a7 x49.length a8)::(B9 x_v24 r_ f g a x_v20 d)) k1 h3 fun p5 k2=>?_
      refine DG 27 rfl (by kernel_rfl) (by decide) (rfl) (by kernel_rfl) fun K hK=>?_
      refine Ea 2 1 (.c (.slice a7 x49.length a8)) [.slice au x40.length av,.slice a7 x49.length a8,.slice u x_v23.length x] k2 h3 fun q4 k4 h4=>hK _ _ ?_
      refine At [12,14] (As p q s ac ad x_v24 ae) [⟨CU af r_ ag f g ah ai,some 43⟩,⟨[.func m k l],some 132⟩,⟨[.slice au x40.length av,.slice a7 x49.length a8,.slice u x_v23.length x],some 76⟩,⟨ER x30,none⟩,⟨ER x30,some 96⟩] ?_
      refine Dr [28] [28,27,26,25,23,22,21,17,16,15,24,8,7,6,12,14,20,19,18,13,11,10,9,5,4,3,2,1,0] ((tP 58 2 2)::(tS 55 bx x55.length b3)::(B9 x_v24 r_ f g a x_v20 d)) k4 h4 fun oj k5=>?_
      refine DG 29 rfl (by kernel_rfl) (by decide) (rfl) (by kernel_rfl) fun K hK=>?_
      refine Ea 2 2 (.c (.slice bx x55.length b3)) [.slice au x40.length av,.slice a7 x49.length a8,.slice bx x55.length b3] k5 h4 fun q5 k6 h5=>hK _ _ ?_
      refine At [12,14] (As p q s ac ad x_v24 ae) [⟨CU af r_ ag f g ah ai,some 43⟩,⟨[.func m k l],some 132⟩,⟨[.slice au x40.length av,.slice a7 x49.length a8,.slice bx x55.length b3],some 76⟩,⟨ER x30,none⟩,⟨ER x30,some 96⟩] ?_
      have k7:Kn 74 (As p q s ac ad x_v24 ae) (B9 x_v24 r_ f g a x_v20 d) oj:=k6.kp
      refine AH (by kernel_rfl) (Ab (Rk 0 2 [tI 28 (IntKind.i64.wrap (x_v24+1)),tI 27 ((r_.buses.length:Nat):Int),tS 26 f r_.buses.length g,tS 5 a x_v20.length d,tP 4 2 0,tP 3 1 0,tP 2 0 0] k7 h5 fun p6 k8=>?_))
      refine wf ?_
      exact QY d6 ⟨Nat.lt_succ_self _,QY x_v20 ⟨x40,x49,x55,IntKind.i64.wrap (x_v24+1),a,d,am,(am:List Value).length,au,av,dm,a7,a8,ap++([.int .i64 x47]:List Value),bx,b3,aq++([.slice bh x53.length bj]:List Value),_,_,rfl,(k8.keep [28,27,26,5,4,3,2] (by rfl)).cut 3 (by kernel_rfl),(h5.cutRw 4).cutPl 3 (by kernel_rfl),QU ck (QU dg (QU dh (QU di dj))),b7,e2,e4,jr,ar⟩⟩
     refine Bq (fun W=>∀ (cq:Option Addr),∀ (cx:Nat),∀ (eb:List Value),∀ (eg:Option Addr),∀ (em:Nat),∀ (ec:List Value),∀ a' w',(∃ (gd:Array Value)(c1:Ad),a' = ⟨gd,[]⟩∧Kn 74 (As p q s ac ad x_v24 ae) ((44,.one (.c (.func m k l)))::(tP 56 2 0)::(tS 40 cq x40.length cx)::(tS 52 a x_v20.length d)::(tS 51 u x_v23.length x)::(tP 45 0 1)::(tS 42 y x_v22.length z)::(B9 x_v24 r_ f g a x_v20 d)) gd∧Ah ⟨w,h,Az⟩ c1 (As p q s ac ad x_v24 ae) (Cr af r_ ag f g ah ai m k l aa x_v21 ab y x_v22 z u x_v23 x x30) [⟨a,x_v20.length,d,3,1,am,ax⟩,⟨cq,x40.length,cx,3,1,eb,0⟩,⟨y,x_v22.length,z,3,1,ap,0⟩,⟨u,x_v23.length,x,31,1,aq,0⟩,⟨eg,1,em,3,1,ec,0⟩,⟨none,0,0,3,1,[],0⟩,⟨none,0,0,31,1,[],0⟩] w'∧Ad.le ak c1∧Af c1 x40 eb∧Af c1 ([x38]:List Int) ec)→W (As p q s ac ad x_v24 ae) (Cr af r_ ag f g ah ai m k l aa x_v21 ab y x_v22 z u x_v23 x x30) [24,8,7,6,12,20,19,18,13,11,10,9,5,4,3,2,1,0] a' w') ?_ (fun im=>?_)
     ·
      intro cq cx eb eg em ec
      rintro _ q6 ⟨gd,c1,rfl,la,fo,m6,js,jt⟩
      refine Dl 14 fun K hK=>?_
      refine AV la fo.plOk rfl (by decide) (by kernel_rfl) fun ok (lb:Kn 74 (As p q s ac ad x_v24 ae) ((tA 46 (BQ r_))::(44,.one (.c (.func m k l)))::(tP 56 2 0)::(tS 40 cq x40.length cx)::(tS 52 a x_v20.length d)::(tS 51 u x_v23.length x)::(tP 45 0 1)::(tS 42 y x_v22.length z)::(B9 x_v24 r_ f g a x_v20 d)) ok)=>hK _ _ fo.plOk ?_
      refine A2 [24,8,7,6,12,14,20,19,18,13,11,10,9,5,4,3,2,1,0] (by kernel_rfl) (by rfl) (f6 cq cx eb eg em ec _ _ ?_)
      exact QY _ ⟨_,rfl,lb.kp,fo,m6,js,jt⟩
     refine Bq (fun W=>∀ (cr:Option Addr),∀ (cy:Nat),∀ (ed:List Value),∀ (eh:Option Addr),∀ (en:Nat),∀ (ee:List Value),∀ a' w',(∃ (gf:Array Value)(c2:Ad),a' = ⟨gf,[]⟩∧Kn 74 (As p q s ac ad x_v24 ae) ((tA 46 (BQ r_))::(tP 56 2 0)::(tS 40 cr x40.length cy)::(tS 52 a x_v20.length d)::(tS 51 u x_v23.length x)::(tP 43 1 0)::(tS 42 y x_v22.length z)::(B9 x_v24 r_ f g a x_v20 d)) gf∧Ah ⟨w,h,Az⟩ c2 (As p q s ac ad x_v24 ae) (Cr af r_ ag f g ah ai m k l aa x_v21 ab y x_v22 z u x_v23 x x30) [⟨a,x_v20.length,d,3,1,am,ax⟩,⟨cr,x40.length,cy,3,1,ed,0⟩,⟨y,x_v22.length,z,3,1,ap,0⟩,⟨u,x_v23.length,x,31,1,aq,0⟩,⟨eh,1,en,3,1,ee,0⟩,⟨none,0,0,3,1,[],0⟩,⟨none,0,0,31,1,[],0⟩] w'∧Ad.le ak c2∧Af c2 x40 ed∧Af c2 ([x38]:List Int) ee)→W (As p q s ac ad x_v24 ae) (Cr af r_ ag f g ah ai m k l aa x_v21 ab y x_v22 z u x_v23 x x30) [24,8,7,6,14,20,19,18,13,11,10,9,5,4,3,2,1,0] a' w') ?_ (fun io=>?_)
     ·
      intro cr cy ed eh en ee
      rintro _ q7 ⟨gf,c2,rfl,ld,fp,m7,ju,jv⟩
      refine Dl 12 fun K hK=>?_
      refine AV ld fp.plOk rfl (by decide) (by kernel_rfl) fun ol (lf:Kn 74 (As p q s ac ad x_v24 ae) ((44,.one (.c (.func m k l)))::(tA 46 (BQ r_))::(tP 56 2 0)::(tS 40 cr x40.length cy)::(tS 52 a x_v20.length d)::(tS 51 u x_v23.length x)::(tP 43 1 0)::(tS 42 y x_v22.length z)::(B9 x_v24 r_ f g a x_v20 d)) ol)=>hK _ _ fp.plOk ?_
      refine A2 [24,8,7,6,12,14,20,19,18,13,11,10,9,5,4,3,2,1,0] (by kernel_rfl) (by rfl) (f6 cr cy ed eh en ee _ _ ?_)
      exact QY _ ⟨_,rfl,lf.kp,fp,m7,ju,jv⟩
     refine Bq (fun W=>∀ (ct:Option Addr),∀ (cz:Nat),∀ (cd:List Value),∀ a' w',(∃ (gg:Array Value)(c3:Ad),a' = ⟨gg,[]⟩∧Kn 74 (As p q s ac ad x_v24 ae) ((tA 46 (BQ r_))::(44,.one (.c (.func m k l)))::(tS 39 ct 1 cz)::(tS 52 a x_v20.length d)::(tS 51 u x_v23.length x)::(CZ y x_v22 z aa x_v21 ab x_v24 r_ f g a x_v20 d)) gg∧Ah ⟨w,h,Az⟩ c3 (As p q s ac ad x_v24 ae) (Cr af r_ ag f g ah ai m k l aa x_v21 ab y x_v22 z u x_v23 x x30) [⟨a,x_v20.length,d,3,1,am,ax⟩,⟨aa,x_v21.length,ab,3,1,al,0⟩,⟨y,x_v22.length,z,3,1,ap,0⟩,⟨u,x_v23.length,x,31,1,aq,0⟩,⟨ct,1,cz,3,1,cd,0⟩,⟨none,0,0,3,1,[],0⟩,⟨none,0,0,31,1,[],0⟩] w'∧Ad.le ak c3∧Af c3 ([x38]:List Int) cd)→W (As p q s ac ad x_v24 ae) (Cr af r_ ag f g ah ai m k l aa x_v21 ab y x_v22 z u x_v23 x x30) [7,6,12,14,20,19,18,13,11,10,9,5,4,3,2,1,0] a' w') ?_ (fun f7=>?_)
     ·
      intro ct cz cd
      rintro _ q8 ⟨gg,c3,rfl,lg,h6,hr,dw⟩
      replace a5:=a5.mono hr
      refine Dl 8 fun K hK=>?_
      obtain⟨f1,m1⟩:=BZ ex40
      refine Bs 1 8 1 _ (x40.length) _ cd lg h6 rfl rfl (by decide) rfl (by rfl) (by kernel_rfl) (by rfl) (by rfl) (Af.len dw) (h6.rowCell (i:=4) rfl) dw.one (by rw [f1]; simp <;> omega) (by rw [f1]; exact m1) (by decide) fun ei eo i5 om q9 ka (lh:Kn 74 (As p q s ac ad x_v24 ae) ((tS 40 ei x40.length eo)::(tA 46 (BQ r_))::(44,.one (.c (.func m k l)))::(tS 39 ct 1 cz)::(tS 52 a x_v20.length d)::(tS 51 u x_v23.length x)::(CZ y x_v22 z aa x_v21 ab x_v24 r_ f g a x_v20 d)) om) fq=>?_
      have jx:Af c3 x40 (al++cd):=by rw [f1]; exact Af.append a5 dw
      obtain rfl:i5=0:=Nat.le_zero.1 ka
      refine hK _ _ fq.plOk ?_
      refine Dr [24] [24,8,7,6,12,14,20,19,18,13,11,10,9,5,4,3,2,1,0] ((tP 56 2 0)::(tS 40 ei x40.length eo)::(tA 46 (BQ r_))::(44,.one (.c (.func m k l)))::(tS 52 a x_v20.length d)::(tS 51 u x_v23.length x)::(tS 42 y x_v22.length z)::(B9 x_v24 r_ f g a x_v20 d)) lh fq fun p9 li=>?_
      refine A2 [24,8,7,6,12,14,20,19,18,13,11,10,9,5,4,3,2,1,0] (by kernel_rfl) (by rfl) (f6 ei eo (al++cd) ct cz cd _ _ ?_)
      exact QY _ ⟨_,rfl,li.kp,fq,hr,jx,dw⟩
     refine Bq (fun W=>∀ (bz:Option Addr),∀ (b4:Nat),∀ (bu:List Value),∀ a' w',(∃ (gh:Array Value)(c4:Ad),a' = ⟨gh,[]⟩∧Kn 74 (As p q s ac ad x_v24 ae) ((44,.one (.c (.func m k l)))::(tS 39 bz 1 b4)::(tS 52 a x_v20.length d)::(tS 51 u x_v23.length x)::(tP 45 0 1)::(CZ y x_v22 z aa x_v21 ab x_v24 r_ f g a x_v20 d)) gh∧Ah ⟨w,h,Az⟩ c4 (As p q s ac ad x_v24 ae) (Cr af r_ ag f g ah ai m k l aa x_v21 ab y x_v22 z u x_v23 x x30) [⟨a,x_v20.length,d,3,1,am,ax⟩,⟨aa,x_v21.length,ab,3,1,al,0⟩,⟨y,x_v22.length,z,3,1,ap,0⟩,⟨u,x_v23.length,x,31,1,aq,0⟩,⟨bz,1,b4,3,1,bu,0⟩,⟨none,0,0,3,1,[],0⟩,⟨none,0,0,31,1,[],0⟩] w'∧Ad.le ak c4∧Af c4 ([x38]:List Int) bu)→W (As p q s ac ad x_v24 ae) (Cr af r_ ag f g ah ai m k l aa x_v21 ab y x_v22 z u x_v23 x x30) [7,6,12,20,19,18,13,11,10,9,5,4,3,2,1,0] a' w') ?_ (fun ip=>?_)
     ·
      intro bz b4 bu
      rintro _ ra ⟨gh,c4,rfl,hf,dk,fe,de⟩
      replace a5:=a5.mono fe
      refine EZ 8 14 rfl rfl (by kernel_rfl) (by decide) (rfl) (rfl) (fun K hK=>?_) (fun K hK=>?_)
      ·
       obtain⟨f2,m2⟩:=BZ ex40
       refine Bs 1 8 1 _ (x40.length) _ bu hf dk rfl rfl (by decide) rfl (by rfl) (by kernel_rfl) (by rfl) (by rfl) (Af.len de) (dk.rowCell (i:=4) rfl) de.one (by rw [f2]; simp <;> omega) (by rw [f2]; exact m2) (by decide) fun ej ep i6 oo rb kb (lj:Kn 74 (As p q s ac ad x_v24 ae) ((tS 40 ej x40.length ep)::(44,.one (.c (.func m k l)))::(tS 39 bz 1 b4)::(tS 52 a x_v20.length d)::(tS 51 u x_v23.length x)::(tP 45 0 1)::(CZ y x_v22 z aa x_v21 ab x_v24 r_ f g a x_v20 d)) oo) fs=>?_
       have jy:Af c4 x40 (al++bu):=by rw [f2]; exact Af.append a5 de
       obtain rfl:i6=0:=Nat.le_zero.1 kb
       refine hK _ _ fs.plOk ?_
       refine Dr [24] [24,8,7,6,12,20,19,18,13,11,10,9,5,4,3,2,1,0] ((tP 56 2 0)::(tS 40 ej x40.length ep)::(44,.one (.c (.func m k l)))::(tS 52 a x_v20.length d)::(tS 51 u x_v23.length x)::(tP 45 0 1)::(tS 42 y x_v22.length z)::(B9 x_v24 r_ f g a x_v20 d)) lj fs fun qa lk=>?_
       refine A2 [24,8,7,6,12,20,19,18,13,11,10,9,5,4,3,2,1,0] (by kernel_rfl) (by rfl) (im ej ep (al++bu) bz b4 bu _ _ ?_)
       exact QY _ ⟨_,rfl,lk.kp,fs,fe,jy,de⟩
      ·
       refine AV hf dk.plOk rfl (by decide) (by kernel_rfl) fun op (ll:Kn 74 (As p q s ac ad x_v24 ae) ((tA 46 (BQ r_))::(44,.one (.c (.func m k l)))::(tS 39 bz 1 b4)::(tS 52 a x_v20.length d)::(tS 51 u x_v23.length x)::(tP 45 0 1)::(CZ y x_v22 z aa x_v21 ab x_v24 r_ f g a x_v20 d)) op)=>hK _ _ dk.plOk ?_
       refine A2 [7,6,12,14,20,19,18,13,11,10,9,5,4,3,2,1,0] (by kernel_rfl) (by rfl) (f7 bz b4 bu _ _ ?_)
       exact QY _ ⟨_,rfl,ll.kp,dk,fe,de⟩
     refine Bq (fun W=>∀ (b0:Option Addr),∀ (b5:Nat),∀ (bv:List Value),∀ a' w',(∃ (gi:Array Value)(c5:Ad),a' = ⟨gi,[]⟩∧Kn 74 (As p q s ac ad x_v24 ae) ((tA 46 (BQ r_))::(tS 39 b0 1 b5)::(tS 52 a x_v20.length d)::(tS 51 u x_v23.length x)::(tP 43 1 0)::(CZ y x_v22 z aa x_v21 ab x_v24 r_ f g a x_v20 d)) gi∧Ah ⟨w,h,Az⟩ c5 (As p q s ac ad x_v24 ae) (Cr af r_ ag f g ah ai m k l aa x_v21 ab y x_v22 z u x_v23 x x30) [⟨a,x_v20.length,d,3,1,am,ax⟩,⟨aa,x_v21.length,ab,3,1,al,0⟩,⟨y,x_v22.length,z,3,1,ap,0⟩,⟨u,x_v23.length,x,31,1,aq,0⟩,⟨b0,1,b5,3,1,bv,0⟩,⟨none,0,0,3,1,[],0⟩,⟨none,0,0,31,1,[],0⟩] w'∧Ad.le ak c5∧Af c5 ([x38]:List Int) bv)→W (As p q s ac ad x_v24 ae) (Cr af r_ ag f g ah ai m k l aa x_v21 ab y x_v22 z u x_v23 x x30) [7,6,14,20,19,18,13,11,10,9,5,4,3,2,1,0] a' w') ?_ (fun iq=>?_)
     ·
      intro b0 b5 bv
      rintro _ rc ⟨gi,c5,rfl,hg,dl,ff,df⟩
      replace a5:=a5.mono ff
      refine EZ 8 12 rfl rfl (by kernel_rfl) (by decide) (rfl) (rfl) (fun K hK=>?_) (fun K hK=>?_)
      ·
       obtain⟨f3,m3⟩:=BZ ex40
       refine Bs 1 8 1 _ (x40.length) _ bv hg dl rfl rfl (by decide) rfl (by rfl) (by kernel_rfl) (by rfl) (by rfl) (Af.len df) (dl.rowCell (i:=4) rfl) df.one (by rw [f3]; simp <;> omega) (by rw [f3]; exact m3) (by decide) fun ek er i7 oq rd kc (lm:Kn 74 (As p q s ac ad x_v24 ae) ((tS 40 ek x40.length er)::(tA 46 (BQ r_))::(tS 39 b0 1 b5)::(tS 52 a x_v20.length d)::(tS 51 u x_v23.length x)::(tP 43 1 0)::(CZ y x_v22 z aa x_v21 ab x_v24 r_ f g a x_v20 d)) oq) ft=>?_
       have jz:Af c5 x40 (al++bv):=by rw [f3]; exact Af.append a5 df
       obtain rfl:i7=0:=Nat.le_zero.1 kc
       refine hK _ _ ft.plOk ?_
       refine Dr [24] [24,8,7,6,14,20,19,18,13,11,10,9,5,4,3,2,1,0] ((tP 56 2 0)::(tS 40 ek x40.length er)::(tA 46 (BQ r_))::(tS 52 a x_v20.length d)::(tS 51 u x_v23.length x)::(tP 43 1 0)::(tS 42 y x_v22.length z)::(B9 x_v24 r_ f g a x_v20 d)) lm ft fun qb ln=>?_
       refine A2 [24,8,7,6,14,20,19,18,13,11,10,9,5,4,3,2,1,0] (by kernel_rfl) (by rfl) (io ek er (al++bv) b0 b5 bv _ _ ?_)
       exact QY _ ⟨_,rfl,ln.kp,ft,ff,jz,df⟩
      ·
       refine AV hg dl.plOk rfl (by decide) (by kernel_rfl) fun os (lp:Kn 74 (As p q s ac ad x_v24 ae) ((44,.one (.c (.func m k l)))::(tA 46 (BQ r_))::(tS 39 b0 1 b5)::(tS 52 a x_v20.length d)::(tS 51 u x_v23.length x)::(tP 43 1 0)::(CZ y x_v22 z aa x_v21 ab x_v24 r_ f g a x_v20 d)) os)=>hK _ _ dl.plOk ?_
       refine A2 [7,6,12,14,20,19,18,13,11,10,9,5,4,3,2,1,0] (by kernel_rfl) (by rfl) (f7 b0 b5 bv _ _ ?_)
       exact QY _ ⟨_,rfl,lp.kp,dl,ff,df⟩
     refine Bq (fun W=>∀ a' w',(∃ (gj:Array Value)(c6:Ad),a' = ⟨gj,[]⟩∧Kn 74 (As p q s ac ad x_v24 ae) ((tA 46 (BQ r_))::(44,.one (.c (.func m k l)))::(tI 38 x38)::(tS 52 a x_v20.length d)::(tS 51 u x_v23.length x)::(CZ y x_v22 z aa x_v21 ab x_v24 r_ f g a x_v20 d)) gj∧Ah ⟨w,h,Az⟩ c6 (As p q s ac ad x_v24 ae) (Cr af r_ ag f g ah ai m k l aa x_v21 ab y x_v22 z u x_v23 x x30) (IN a x_v20 d am ax aa x_v21 ab al y x_v22 z ap u x_v23 x aq) w'∧Ad.le ak c6)→W (As p q s ac ad x_v24 ae) (Cr af r_ ag f g ah ai m k l aa x_v21 ab y x_v22 z u x_v23 x x30) [6,12,14,20,19,18,13,11,10,9,5,4,3,2,1,0] a' w') ?_ (fun f8=>?_)
     ·
      rintro _ re ⟨gj,c6,rfl,lq,nm,m8⟩
      refine Dl 7 fun K hK=>?_
      refine Cz 4 rfl rfl 3 1 [.int .i64 x38] lq nm rfl rfl (by decide) (by kernel_rfl) (by rfl) (by rfl) rfl (by decide) fun gz ot rf (lr:Kn 74 (As p q s ac ad x_v24 ae) ((tS 39 gz 1 1)::(tA 46 (BQ r_))::(44,.one (.c (.func m k l)))::(tI 38 x38)::(tS 52 a x_v20.length d)::(tS 51 u x_v23.length x)::(CZ y x_v22 z aa x_v21 ab x_v24 r_ f g a x_v20 d)) ot) h7=>?_
      have j0:Af c6 ([x38]:List Int) ([.int .i64 x38]:List Value):=⟨_,_,rfl,(Ac:rep c6 (x38:Int) _),rfl⟩
      refine hK _ _ h7.plOk ?_
      refine A2 [7,6,12,14,20,19,18,13,11,10,9,5,4,3,2,1,0] (by kernel_rfl) (by rfl) (f7 gz 1 ([.int .i64 x38]:List Value) _ _ ?_)
      exact QY _ ⟨_,rfl,lr.kp,h7,m8,j0⟩
     refine Bq (fun W=>∀ a' w',(∃ (gk:Array Value)(c7:Ad),a' = ⟨gk,[]⟩∧Kn 74 (As p q s ac ad x_v24 ae) ((44,.one (.c (.func m k l)))::(tI 38 x38)::(tS 52 a x_v20.length d)::(tS 51 u x_v23.length x)::(tP 45 0 1)::(CZ y x_v22 z aa x_v21 ab x_v24 r_ f g a x_v20 d)) gk∧Ah ⟨w,h,Az⟩ c7 (As p q s ac ad x_v24 ae) (Cr af r_ ag f g ah ai m k l aa x_v21 ab y x_v22 z u x_v23 x x30) (IN a x_v20 d am ax aa x_v21 ab al y x_v22 z ap u x_v23 x aq) w'∧Ad.le ak c7)→W (As p q s ac ad x_v24 ae) (Cr af r_ ag f g ah ai m k l aa x_v21 ab y x_v22 z u x_v23 x x30) [6,12,20,19,18,13,11,10,9,5,4,3,2,1,0] a' w') ?_ (fun ir=>?_)
     ·
      rintro _ rg ⟨gk,c7,rfl,hl,d3,hs⟩
      refine EZ 7 14 rfl rfl (by kernel_rfl) (by decide) (rfl) (rfl) (fun K hK=>?_) (fun K hK=>?_)
      ·
       refine Cz 4 rfl rfl 3 1 [.int .i64 x38] hl d3 rfl rfl (by decide) (by kernel_rfl) (by rfl) (by rfl) rfl (by decide) fun g0 ou rh (ls:Kn 74 (As p q s ac ad x_v24 ae) ((tS 39 g0 1 1)::(44,.one (.c (.func m k l)))::(tI 38 x38)::(tS 52 a x_v20.length d)::(tS 51 u x_v23.length x)::(tP 45 0 1)::(CZ y x_v22 z aa x_v21 ab x_v24 r_ f g a x_v20 d)) ou) h8=>?_
       have j1:Af c7 ([x38]:List Int) ([.int .i64 x38]:List Value):=⟨_,_,rfl,(Ac:rep c7 (x38:Int) _),rfl⟩
       refine hK _ _ h8.plOk ?_
       refine A2 [7,6,12,20,19,18,13,11,10,9,5,4,3,2,1,0] (by kernel_rfl) (by rfl) (ip g0 1 ([.int .i64 x38]:List Value) _ _ ?_)
       exact QY _ ⟨_,rfl,ls.kp,h8,hs,j1⟩
      ·
       refine AV hl d3.plOk rfl (by decide) (by kernel_rfl) fun ov (lu:Kn 74 (As p q s ac ad x_v24 ae) ((tA 46 (BQ r_))::(44,.one (.c (.func m k l)))::(tI 38 x38)::(tS 52 a x_v20.length d)::(tS 51 u x_v23.length x)::(tP 45 0 1)::(CZ y x_v22 z aa x_v21 ab x_v24 r_ f g a x_v20 d)) ov)=>hK _ _ d3.plOk ?_
       refine A2 [6,12,14,20,19,18,13,11,10,9,5,4,3,2,1,0] (by kernel_rfl) (by rfl) (f8 _ _ ?_)
       exact QY _ ⟨_,rfl,lu.kp,d3,hs⟩
     refine Bq (fun W=>∀ a' w',(∃ (gl:Array Value)(c8:Ad),a' = ⟨gl,[]⟩∧Kn 74 (As p q s ac ad x_v24 ae) ((tA 46 (BQ r_))::(tI 38 x38)::(tS 52 a x_v20.length d)::(tS 51 u x_v23.length x)::(tP 43 1 0)::(CZ y x_v22 z aa x_v21 ab x_v24 r_ f g a x_v20 d)) gl∧Ah ⟨w,h,Az⟩ c8 (As p q s ac ad x_v24 ae) (Cr af r_ ag f g ah ai m k l aa x_v21 ab y x_v22 z u x_v23 x x30) (IN a x_v20 d am ax aa x_v21 ab al y x_v22 z ap u x_v23 x aq) w'∧Ad.le ak c8)→W (As p q s ac ad x_v24 ae) (Cr af r_ ag f g ah ai m k l aa x_v21 ab y x_v22 z u x_v23 x x30) [6,14,20,19,18,13,11,10,9,5,4,3,2,1,0] a' w') ?_ (fun iu=>?_)
     ·
      rintro _ ri ⟨gl,c8,rfl,hn,d4,ht⟩
      refine EZ 7 12 rfl rfl (by kernel_rfl) (by decide) (rfl) (rfl) (fun K hK=>?_) (fun K hK=>?_)
      ·
       refine Cz 4 rfl rfl 3 1 [.int .i64 x38] hn d4 rfl rfl (by decide) (by kernel_rfl) (by rfl) (by rfl) rfl (by decide) fun g1 ow rj (lv:Kn 74 (As p q s ac ad x_v24 ae) ((tS 39 g1 1 1)::(tA 46 (BQ r_))::(tI 38 x38)::(tS 52 a x_v20.length d)::(tS 51 u x_v23.length x)::(tP 43 1 0)::(CZ y x_v22 z aa x_v21 ab x_v24 r_ f g a x_v20 d)) ow) h9=>?_
       have j3:Af c8 ([x38]:List Int) ([.int .i64 x38]:List Value):=⟨_,_,rfl,(Ac:rep c8 (x38:Int) _),rfl⟩
       refine hK _ _ h9.plOk ?_
       refine A2 [7,6,14,20,19,18,13,11,10,9,5,4,3,2,1,0] (by kernel_rfl) (by rfl) (iq g1 1 ([.int .i64 x38]:List Value) _ _ ?_)
       exact QY _ ⟨_,rfl,lv.kp,h9,ht,j3⟩
      ·
       refine AV hn d4.plOk rfl (by decide) (by kernel_rfl) fun ox (lw:Kn 74 (As p q s ac ad x_v24 ae) ((44,.one (.c (.func m k l)))::(tA 46 (BQ r_))::(tI 38 x38)::(tS 52 a x_v20.length d)::(tS 51 u x_v23.length x)::(tP 43 1 0)::(CZ y x_v22 z aa x_v21 ab x_v24 r_ f g a x_v20 d)) ox)=>hK _ _ d4.plOk ?_
       refine A2 [6,12,14,20,19,18,13,11,10,9,5,4,3,2,1,0] (by kernel_rfl) (by rfl) (f8 _ _ ?_)
       exact QY _ ⟨_,rfl,lw.kp,d4,ht⟩
     refine Bq (fun W=>∀ a' w',(∃ (gm:Array Value)(dt:Ad),a' = ⟨gm,[]⟩∧Kn 74 (As p q s ac ad x_v24 ae) ((tA 46 (BQ r_))::(44,.one (.c (.func m k l)))::(tS 52 a x_v20.length d)::(tS 51 u x_v23.length x)::(tS 42 y x_v22.length z)::(tA 37 (Ik x30))::(35,.one (.c (.func m k l)))::(tS 33 aa x_v21.length ab)::(B9 x_v24 r_ f g a x_v20 d)) gm∧Ah ⟨w,h,Az⟩ dt (As p q s ac ad x_v24 ae) (Cr af r_ ag f g ah ai m k l aa x_v21 ab y x_v22 z u x_v23 x x30) (IN a x_v20 d am ax aa x_v21 ab al y x_v22 z ap u x_v23 x aq) w'∧Ad.le ak dt)→W (As p q s ac ad x_v24 ae) (Cr af r_ ag f g ah ai m k l aa x_v21 ab y x_v22 z u x_v23 x x30) [12,14,20,19,18,13,11,10,9,5,4,3,2,1,0] a' w') ?_ (fun iv=>?_)
     ·
      rintro _ rk ⟨gm,dt,rfl,lx,ia,hu⟩
      replace aw:=aw.mono hu
      refine Dl 6 fun K hK=>?_
      refine CN (.func m k l) [.agg (Ik x30)] _ lx ia rfl rfl (by decide) (by rfl) (by rfl) rfl (aw _ _ (Ad.le_refl _) ia.has x30.tm _ ((Aa Ac Ac):rep dt x30.tm _) _ ex38) fun qm pr rl jc m9 ib=>?_
      obtain rfl:=jc
      refine⟨.one (.c (.int .i64 x38)),rfl,fun oy (ly:Kn 74 (As p q s ac ad x_v24 ae) ((tI 38 x38)::(tA 46 (BQ r_))::(44,.one (.c (.func m k l)))::(tS 52 a x_v20.length d)::(tS 51 u x_v23.length x)::(tS 42 y x_v22.length z)::(tA 37 (Ik x30))::(35,.one (.c (.func m k l)))::(tS 33 aa x_v21.length ab)::(B9 x_v24 r_ f g a x_v20 d)) oy)=>hK _ _ ib.plOk ?_⟩
      refine A2 [6,12,14,20,19,18,13,11,10,9,5,4,3,2,1,0] (by kernel_rfl) (by rfl) (f8 _ _ ?_)
      exact QY _ ⟨_,rfl,ly.kp,ib,QU hu m9⟩
     refine FD 6 12 14 rfl rfl rfl (by kernel_rfl) (by decide) (rfl) (rfl) (rfl) (fun K hK=>?_) (fun K hK=>?_) (fun K hK=>?_)
     ·
      refine CN (.func m k l) [.agg (Ik x30)] _ e9 a0 rfl rfl (by decide) (by rfl) (by rfl) rfl (aw _ _ (Ad.le_refl _) a0.has x30.tm _ ((Aa Ac Ac):rep ak x30.tm _) _ ex38) fun qn ew rm jd ca bs=>?_
      replace a5:=a5.mono ca
      obtain rfl:=jd
      refine⟨.one (.c (.int .i64 x38)),rfl,fun oz (fa:Kn 74 (As p q s ac ad x_v24 ae) ((tI 38 x38)::(D9 a x_v20 d u x_v23 x y x_v22 z x30 m k l aa x_v21 ab x_v24 r_ f g)) oz)=>hK _ _ bs.plOk ?_⟩
      refine FD 7 12 14 rfl rfl rfl (by kernel_rfl) (by decide) (rfl) (rfl) (rfl) (fun K hK=>?_) (fun K hK=>?_) (fun K hK=>?_)
      ·
       refine Cz 4 rfl rfl 3 1 [.int .i64 x38] fa bs rfl rfl (by decide) (by kernel_rfl) (by rfl) (by rfl) rfl (by decide) fun bp o0 rn (fb:Kn 74 (As p q s ac ad x_v24 ae) ((tS 39 bp 1 1)::(tI 38 x38)::(D9 a x_v20 d u x_v23 x y x_v22 z x30 m k l aa x_v21 ab x_v24 r_ f g)) o0) bm=>?_
       have b8:Af ew ([x38]:List Int) ([.int .i64 x38]:List Value):=⟨_,_,rfl,(Ac:rep ew (x38:Int) _),rfl⟩
       refine hK _ _ bm.plOk ?_
       refine FD 8 12 14 rfl rfl rfl (by kernel_rfl) (by decide) (rfl) (rfl) (rfl) (fun K hK=>?_) (fun K hK=>?_) (fun K hK=>?_)
       ·
        obtain⟨f4,m4⟩:=BZ ex40
        refine Bs 1 8 1 _ (x40.length) _ ([.int .i64 x38]:List Value) fb bm rfl rfl (by decide) rfl (by rfl) (by kernel_rfl) (by rfl) (by rfl) (Af.len b8) (bm.rowCell (i:=4) rfl) b8.one (by rw [f4]; simp <;> omega) (by rw [f4]; exact m4) (by decide) fun ch ci i8 o1 ro kd (lz:Kn 74 (As p q s ac ad x_v24 ae) ((tS 40 ch x40.length ci)::(tS 39 bp 1 1)::(tI 38 x38)::(D9 a x_v20 d u x_v23 x y x_v22 z x30 m k l aa x_v21 ab x_v24 r_ f g)) o1) bt=>?_
        have he:Af ew x40 (al++([.int .i64 x38]:List Value)):=by rw [f4]; exact Af.append a5 b8
        obtain rfl:i8=0:=Nat.le_zero.1 kd
        refine hK _ _ bt.plOk ?_
        refine Dr [24] [24,8,7,6,20,19,18,13,11,10,9,5,4,3,2,1,0] ((tP 56 2 0)::(tS 40 ch x40.length ci)::(tS 52 a x_v20.length d)::(tS 51 u x_v23.length x)::(tP 45 0 1)::(tP 43 1 0)::(tS 42 y x_v22.length z)::(B9 x_v24 r_ f g a x_v20 d)) lz bt fun qc ho=>?_
        refine EZ 12 14 rfl rfl (by kernel_rfl) (by decide) (rfl) (rfl) (fun K hK=>?_) (fun K hK=>?_)
        ·
         refine AV ho bt.plOk rfl (by decide) (by kernel_rfl) fun o2 (l0:Kn 74 (As p q s ac ad x_v24 ae) ((44,.one (.c (.func m k l)))::(tP 56 2 0)::(tS 40 ch x40.length ci)::(tS 52 a x_v20.length d)::(tS 51 u x_v23.length x)::(tP 45 0 1)::(tP 43 1 0)::(tS 42 y x_v22.length z)::(B9 x_v24 r_ f g a x_v20 d)) o2)=>hK _ _ bt.plOk ?_
         refine A2 [24,8,7,6,12,20,19,18,13,11,10,9,5,4,3,2,1,0] (by kernel_rfl) (by rfl) (im ch ci (al++([.int .i64 x38]:List Value)) bp 1 ([.int .i64 x38]:List Value) _ _ ?_)
         exact QY _ ⟨_,rfl,l0.kp,bt,ca,he,b8⟩
        ·
         refine AV ho bt.plOk rfl (by decide) (by kernel_rfl) fun o3 (l1:Kn 74 (As p q s ac ad x_v24 ae) ((tA 46 (BQ r_))::(tP 56 2 0)::(tS 40 ch x40.length ci)::(tS 52 a x_v20.length d)::(tS 51 u x_v23.length x)::(tP 45 0 1)::(tP 43 1 0)::(tS 42 y x_v22.length z)::(B9 x_v24 r_ f g a x_v20 d)) o3)=>hK _ _ bt.plOk ?_
         refine A2 [24,8,7,6,14,20,19,18,13,11,10,9,5,4,3,2,1,0] (by kernel_rfl) (by rfl) (io ch ci (al++([.int .i64 x38]:List Value)) bp 1 ([.int .i64 x38]:List Value) _ _ ?_)
         exact QY _ ⟨_,rfl,l1.kp,bt,ca,he,b8⟩
       ·
        refine AV fb bm.plOk rfl (by decide) (by kernel_rfl) fun o4 (l2:Kn 74 (As p q s ac ad x_v24 ae) ((44,.one (.c (.func m k l)))::(tS 39 bp 1 1)::(tI 38 x38)::(D9 a x_v20 d u x_v23 x y x_v22 z x30 m k l aa x_v21 ab x_v24 r_ f g)) o4)=>hK _ _ bm.plOk ?_
        refine A2 [7,6,12,20,19,18,13,11,10,9,5,4,3,2,1,0] (by kernel_rfl) (by rfl) (ip bp 1 ([.int .i64 x38]:List Value) _ _ ?_)
        exact QY _ ⟨_,rfl,l2.kp,bm,ca,b8⟩
       ·
        refine AV fb bm.plOk rfl (by decide) (by kernel_rfl) fun o5 (l3:Kn 74 (As p q s ac ad x_v24 ae) ((tA 46 (BQ r_))::(tS 39 bp 1 1)::(tI 38 x38)::(D9 a x_v20 d u x_v23 x y x_v22 z x30 m k l aa x_v21 ab x_v24 r_ f g)) o5)=>hK _ _ bm.plOk ?_
        refine A2 [7,6,14,20,19,18,13,11,10,9,5,4,3,2,1,0] (by kernel_rfl) (by rfl) (iq bp 1 ([.int .i64 x38]:List Value) _ _ ?_)
        exact QY _ ⟨_,rfl,l3.kp,bm,ca,b8⟩
      ·
       refine AV fa bs.plOk rfl (by decide) (by kernel_rfl) fun o6 (l4:Kn 74 (As p q s ac ad x_v24 ae) ((44,.one (.c (.func m k l)))::(tI 38 x38)::(D9 a x_v20 d u x_v23 x y x_v22 z x30 m k l aa x_v21 ab x_v24 r_ f g)) o6)=>hK _ _ bs.plOk ?_
       refine A2 [6,12,20,19,18,13,11,10,9,5,4,3,2,1,0] (by kernel_rfl) (by rfl) (ir _ _ ?_)
       exact QY _ ⟨_,rfl,l4.kp,bs,ca⟩
      ·
       refine AV fa bs.plOk rfl (by decide) (by kernel_rfl) fun o7 (l5:Kn 74 (As p q s ac ad x_v24 ae) ((tA 46 (BQ r_))::(tI 38 x38)::(D9 a x_v20 d u x_v23 x y x_v22 z x30 m k l aa x_v21 ab x_v24 r_ f g)) o7)=>hK _ _ bs.plOk ?_
       refine A2 [6,14,20,19,18,13,11,10,9,5,4,3,2,1,0] (by kernel_rfl) (by rfl) (iu _ _ ?_)
       exact QY _ ⟨_,rfl,l5.kp,bs,ca⟩
     ·
      refine AV e9 a0.plOk rfl (by decide) (by kernel_rfl) fun o8 (hp:Kn 74 (As p q s ac ad x_v24 ae) ((44,.one (.c (.func m k l)))::(D9 a x_v20 d u x_v23 x y x_v22 z x30 m k l aa x_v21 ab x_v24 r_ f g)) o8)=>hK _ _ a0.plOk ?_
      refine EZ 6 14 rfl rfl (by kernel_rfl) (by decide) (rfl) (rfl) (fun K hK=>?_) (fun K hK=>?_)
      ·
       refine CN (.func m k l) [.agg (Ik x30)] _ hp a0 rfl rfl (by decide) (by rfl) (by rfl) rfl (aw _ _ (Ad.le_refl _) a0.has x30.tm _ ((Aa Ac Ac):rep ak x30.tm _) _ ex38) fun qo ps rp je na ic=>?_
       obtain rfl:=je
       refine⟨.one (.c (.int .i64 x38)),rfl,fun o9 (l6:Kn 74 (As p q s ac ad x_v24 ae) ((tI 38 x38)::(44,.one (.c (.func m k l)))::(D9 a x_v20 d u x_v23 x y x_v22 z x30 m k l aa x_v21 ab x_v24 r_ f g)) o9)=>hK _ _ ic.plOk ?_⟩
       refine A2 [6,12,20,19,18,13,11,10,9,5,4,3,2,1,0] (by kernel_rfl) (by rfl) (ir _ _ ?_)
       exact QY _ ⟨_,rfl,l6.kp,ic,na⟩
      ·
       refine AV hp a0.plOk rfl (by decide) (by kernel_rfl) fun pa (l7:Kn 74 (As p q s ac ad x_v24 ae) ((tA 46 (BQ r_))::(44,.one (.c (.func m k l)))::(D9 a x_v20 d u x_v23 x y x_v22 z x30 m k l aa x_v21 ab x_v24 r_ f g)) pa)=>hK _ _ a0.plOk ?_
       refine A2 [12,14,20,19,18,13,11,10,9,5,4,3,2,1,0] (by kernel_rfl) (by rfl) (iv _ _ ?_)
       exact QY _ ⟨_,rfl,l7.kp,a0,Ad.le_refl _⟩
     ·
      refine AV e9 a0.plOk rfl (by decide) (by kernel_rfl) fun pb (hq:Kn 74 (As p q s ac ad x_v24 ae) ((tA 46 (BQ r_))::(D9 a x_v20 d u x_v23 x y x_v22 z x30 m k l aa x_v21 ab x_v24 r_ f g)) pb)=>hK _ _ a0.plOk ?_
      refine EZ 6 12 rfl rfl (by kernel_rfl) (by decide) (rfl) (rfl) (fun K hK=>?_) (fun K hK=>?_)
      ·
       refine CN (.func m k l) [.agg (Ik x30)] _ hq a0 rfl rfl (by decide) (by rfl) (by rfl) rfl (aw _ _ (Ad.le_refl _) a0.has x30.tm _ ((Aa Ac Ac):rep ak x30.tm _) _ ex38) fun qp pt rq jf nb ie=>?_
       obtain rfl:=jf
       refine⟨.one (.c (.int .i64 x38)),rfl,fun pc (l8:Kn 74 (As p q s ac ad x_v24 ae) ((tI 38 x38)::(tA 46 (BQ r_))::(D9 a x_v20 d u x_v23 x y x_v22 z x30 m k l aa x_v21 ab x_v24 r_ f g)) pc)=>hK _ _ ie.plOk ?_⟩
       refine A2 [6,14,20,19,18,13,11,10,9,5,4,3,2,1,0] (by kernel_rfl) (by rfl) (iu _ _ ?_)
       exact QY _ ⟨_,rfl,l8.kp,ie,nb⟩
      ·
       refine AV hq a0.plOk rfl (by decide) (by kernel_rfl) fun pd (l9:Kn 74 (As p q s ac ad x_v24 ae) ((44,.one (.c (.func m k l)))::(tA 46 (BQ r_))::(D9 a x_v20 d u x_v23 x y x_v22 z x30 m k l aa x_v21 ab x_v24 r_ f g)) pd)=>hK _ _ a0.plOk ?_
       refine A2 [12,14,20,19,18,13,11,10,9,5,4,3,2,1,0] (by kernel_rfl) (by rfl) (iv _ _ ?_)
       exact QY _ ⟨_,rfl,l9.kp,a0,Ad.le_refl _⟩
    ·
     rw [ez,QV] at ar
     refine wp_exit ?_
     obtain rfl:=QZ ar
     exact QY a ⟨d,am,ax,aa,ab,al,y,z,ap,u,x,aq,_,_,rfl,e8.kp,fj,ck,b7,a5,du,dv⟩
  ·
   rintro _ rt ⟨cp,cw,d8,es,a1,a3,cm,a2,a4,cn,dq,ds,d9,ga,bl,rfl,ma,ig,d0,jo,dc,dd,jp⟩
   replace bd:=bd.mono d0
   replace be:=be.mono d0
   replace bf:=bf.mono d0
   replace aw:=aw.mono d0
   refine QT (QT (Ab (Rk 0 4 [tI 63 0,tI 62 ((r_.spares.length:Nat):Int),tS 5 cp aj.1.length cw,tP 4 2 0] ma ig fun qd mc=>?_)))
   refine wf ?_
   obtain⟨bg,ha,H⟩:=A3 H
   refine A7 (fun a' w'=>∃ (g2:Option Addr)(g7:Nat)(gr:List Value)(hb:Nat)(b1:Option Addr)(b6:Nat)(gs:List Value)(gp:Array Value)(da:Ad),a' = ⟨gp,[]⟩∧Kn 74 [(p,0),(q,0),(s,0)] [tP 4 2 0] gp∧Ah ⟨w,h,Az⟩ da [(p,0),(q,0),(s,0)] [⟨CU af r_ ag f g ah ai,some 43⟩,⟨[.func m k l],some 132⟩,⟨[.slice a1 aj.2.1.length a3,.slice a2 aj.2.2.1.length a4,.slice b1 bg.2.length b6],some 76⟩] [⟨g2,bg.1.length,g7,3,1,gr,hb⟩,⟨a1,aj.2.1.length,a3,3,1,cm,0⟩,⟨a2,aj.2.2.1.length,a4,3,1,cn,0⟩,⟨b1,bg.2.length,b6,31,1,gs,0⟩] w'∧Ad.le bl da∧Af da bg.1 gr∧Af da bg.2 gs) ?_ ?_
   ·
    refine wp_block ?_
    refine A5 (fun n7 a' w'=>∃ (x_v30:List Int)(x_v31:List (List Int))(x_v32:Int)(an:Option Addr)(ao:Nat)(bw:List Value)(et:Nat)(ba:Option Addr)(bb:Nat)(cf:List Value)(gq:Array Value)(db:Ad),a' = ⟨gq,[]⟩∧Kn 74 [(p,0),(q,0),(s,0)] (FJ x_v32 r_ an x_v30 ao) gq∧Ah ⟨w,h,Az⟩ db [(p,0),(q,0),(s,0)] [⟨CU af r_ ag f g ah ai,some 43⟩,⟨[.func m k l],some 132⟩,⟨[.slice a1 aj.2.1.length a3,.slice a2 aj.2.2.1.length a4,.slice ba x_v31.length bb],some 76⟩] [⟨an,x_v30.length,ao,3,1,bw,et⟩,⟨a1,aj.2.1.length,a3,3,1,cm,0⟩,⟨a2,aj.2.2.1.length,a4,3,1,cn,0⟩,⟨ba,x_v31.length,bb,31,1,cf,0⟩] w'∧Ad.le bl db∧Af db x_v30 bw∧Af db x_v31 cf∧BX n7 r_ x_v30 x_v31 x_v32=some bg) n ?_ ?_
    ·
     exact QY aj.1 ⟨aj.2.2.2,0,cp,cw,d8,es,dq,ds,d9,_,_,rfl,mc.kp,ig,Ad.le_refl _,jo,jp,ha⟩
    ·
     rintro d7 _ po ⟨x_v30,x_v31,x_v32,an,ao,bw,et,ba,bb,cf,gq,db,rfl,md,cb,br,b9,dy,bc⟩
     clear ha
     obtain _ | d7:=d7
     ·
      rw [BX] at bc; cases bc
     rw [BX] at bc
     replace bd:=bd.mono br
     replace be:=be.mono br
     replace bf:=bf.mono br
     replace aw:=aw.mono br
     replace dc:=dc.mono br
     replace dd:=dd.mono br
     refine QT (Ab (Rk 0 1 ((tB 64 (decide (x_v32<((r_.spares.length:Nat):Int))))::(FJ x_v32 r_ an x_v30 ao)) md cb fun qe fc=>?_))
     refine wf (QT (wC (decide (x_v32<((r_.spares.length:Nat):Int))) fc (fun e0=>?_) (fun e0=>?_)))
     ·
      rw [e0,QW] at bc
      refine wp_skip (QT (wp_block (Ao (by kernel_rfl) ?_)))
      replace cb:=cb.drew
      refine At [] [(p,0),(q,0),(s,0)] [⟨CU af r_ ag f g ah ai,some 43⟩,⟨[.func m k l],some 132⟩,⟨[.slice a1 aj.2.1.length a3,.slice a2 aj.2.2.1.length a4,.slice ba x_v31.length bb],some 76⟩] ?_
      refine Dr [0,1,2] [2,1,0] ((tS 67 an x_v30.length ao)::(tS 66 ba x_v31.length bb)::(FJ x_v32 r_ an x_v30 ao)) fc cb fun qf me=>?_
      obtain⟨hd,fg,n0,d5⟩:=cb.settle (i:=0) rfl
      replace b9:=b9.mono fg
      replace d5:Ah ⟨w,h,Az⟩ hd [(p,0),(q,0),(s,0)] [⟨CU af r_ ag f g ah ai,some 43⟩,⟨[.func m k l],some 132⟩,⟨[.slice a1 aj.2.1.length a3,.slice a2 aj.2.2.1.length a4,.slice ba x_v31.length bb],some 76⟩] [⟨an,x_v30.length,ao,3,1,bw,(bw:List Value).length⟩,⟨a1,aj.2.1.length,a3,3,1,cm,0⟩,⟨a2,aj.2.2.1.length,a4,3,1,cn,0⟩,⟨ba,x_v31.length,bb,31,1,cf,0⟩] (World.drew po):=d5
      have nx:Ar hd an ao x_v30:=⟨_,b9,n0,cb.rowCap (i:=0) rfl⟩
      obtain⟨x68,ex68,bc⟩:=A3 bc
      refine Dl 3 fun K hK=>?_
      refine wc [.c (.slice an x_v30.length ao)] me d5 (Co d7 d5.has x_v30 nx ex68) fun qq ex ru jg fh ih=>?_
      replace b9:=b9.mono fh
      replace dy:=dy.mono (QU fg fh)
      obtain⟨bi,bk,rfl,ny⟩:=jg
      refine⟨.one (.c (.slice bi x68.length bk)),rfl,fun pe (mf:Kn 74 [(p,0),(q,0),(s,0)] ((tS 68 bi x68.length bk)::(tS 67 an x_v30.length ao)::(tS 66 ba x_v31.length bb)::(FJ x_v32 r_ an x_v30 ao)) pe)=>hK _ _ ih.plOk ?_⟩
      refine Dl 4 fun K hK=>?_
      refine wS 31 1 [.slice bi x68.length bk] mf ih fun g3 pf rv (mg:Kn 74 [(p,0),(q,0),(s,0)] ((tS 69 g3 1 1)::(tS 68 bi x68.length bk)::(tS 67 an x_v30.length ao)::(tS 66 ba x_v31.length bb)::(FJ x_v32 r_ an x_v30 ao)) pf) fv=>?_
      have e6:Af ex ([x68]:List (List Int)) ([.slice bi x68.length bk]:List Value):=⟨_,_,rfl,((Ae ny):rep ex (x68:List Int) _),rfl⟩
      refine hK _ _ fv.plOk ?_
      obtain⟨x70,ex70,bc⟩:=A3 bc
      obtain⟨f5,m5⟩:=BZ ex70
      refine Dl 5 fun K hK=>?_
      refine Bs 3 24 1 _ (x70.length) _ ([.slice bi x68.length bk]:List Value) mg fv rfl rfl (by decide) rfl (by rfl) (by kernel_rfl) (by rfl) (by rfl) (Af.len e6) (fv.rowCell (i:=4) rfl) e6.one (by rw [f5]; simp <;> omega) (by rw [f5]; exact m5) (by decide) fun cu c0 i9 pg rx ke (mh:Kn 74 [(p,0),(q,0),(s,0)] ((tS 70 cu x70.length c0)::(tS 69 g3 1 1)::(tS 68 bi x68.length bk)::(tS 67 an x_v30.length ao)::(tS 66 ba x_v31.length bb)::(FJ x_v32 r_ an x_v30 ao)) pg) fw=>?_
      have j5:Af ex x70 (cf++([.slice bi x68.length bk]:List Value)):=by rw [f5]; exact Af.append dy e6
      obtain rfl:i9=0:=Nat.le_zero.1 ke
      refine hK _ _ fw.plOk ?_
      refine Dr [6] (dn 6) ((tP 71 2 2)::(tS 70 cu x70.length c0)::(FJ x_v32 r_ an x_v30 ao)) mh fw fun ph mi=>?_
      refine DG 7 rfl (by kernel_rfl) (by decide) (rfl) (by kernel_rfl) fun K hK=>?_
      refine Ea 2 2 (.c (.slice cu x70.length c0)) [.slice a1 aj.2.1.length a3,.slice a2 aj.2.2.1.length a4,.slice cu x70.length c0] mi fw fun ry mj ii=>hK _ _ ?_
      have mk:Kn 74 [(p,0),(q,0),(s,0)] (FJ x_v32 r_ an x_v30 ao) ph:=mj.kp
      refine FA (by kernel_rfl) (Ab (Rk 0 2 [tI 63 (IntKind.i64.wrap (x_v32+1)),tI 62 ((r_.spares.length:Nat):Int),tS 5 an x_v30.length ao,tP 4 2 0] mk ii fun qh ml=>?_))
      refine wf ?_
      exact QY d7 ⟨Nat.lt_succ_self _,QY x_v30 ⟨x70,IntKind.i64.wrap (x_v32+1),an,ao,bw,(bw:List Value).length,cu,c0,cf++([.slice bi x68.length bk]:List Value),_,_,rfl,ml.kp,ii.cutRw 4,QU br (QU fg fh),b9,j5,bc⟩⟩
     ·
      rw [e0,QV] at bc
      refine wp_exit ?_
      obtain rfl:=QZ bc
      exact QY an ⟨ao,bw,et,ba,bb,cf,_,_,rfl,fc.kp,cb,br,b9,dy⟩
   ·
    rintro _ rz ⟨g2,g7,gr,hb,b1,b6,gs,gp,da,rfl,mm,ij,hv,py,j4⟩
    replace dc:=dc.mono hv
    replace dd:=dd.mono hv
    refine QT (Ab (Rk 0 1 [tA 73 [.slice a1 aj.2.1.length a3,.slice a2 aj.2.2.1.length a4,.slice b1 bg.2.length b6],tP 4 2 0] mm ij fun pi mn=>?_))
    refine wl fun K hK=>?_
    refine Ea 2 0 (.agg [.slice a1 aj.2.1.length a3,.slice a2 aj.2.2.1.length a4,.slice b1 bg.2.length b6]) [.slice a1 aj.2.1.length a3,.slice a2 aj.2.2.1.length a4,.slice b1 bg.2.length b6] mn ij fun r0 mo nn=>hK _ _ ?_
    have mp:Kn 74 [(p,0),(q,0),(s,0)] [tP 4 2 0] pi:=mo.kp
    refine wf (wp_ret ?_)
    obtain rfl:=QZ H
    exact Ma (.one (.agg [.slice a1 aj.2.1.length a3,.slice a2 aj.2.2.1.length a4,.slice b1 bg.2.length b6])) [1,2,3] mp nn (by kernel_rfl) (by kernel_rfl) (by kernel_rfl) ⟨_,_,_,_,_,_,_,_,_,rfl,rfl,dc,dd,j4⟩
theorem EF (n:Nat) {h:Ad} {w:World} (hh:Dv h w) (r_:Ag) {cs_r_:List Value} (hx_r_:rep h r_ cs_r_) (e:Gl) {cs_e:List Value} (hx_e:rep h e cs_e) {r:AB} (H:Bw n r_ e=some r) :
    Calls Try.prog 67 #[.agg cs_r_.toArray,.agg cs_e.toArray] w (D6 (fun h v=>∃ cs,v=.agg cs.toArray∧rep h r cs) h w) :=
  (Av n hh r_ hx_r_ e hx_e H).mono fun en w' ⟨v,h0,rs,he,hm,a0,c0,x0,a1,c1,x1,a2,c2,x2,hv,hrs,k0,k1,k2⟩=>by
    subst hv hrs
    have n0:=hm.rowCap (i:=0) rfl
    have n1:=hm.rowCap (i:=1) rfl
    have n2:=hm.rowCap (i:=2) rfl
    obtain⟨h1,l1,s0,hm⟩:=hm.settle (i:=0) rfl
    obtain⟨h2,l2,s1,hm⟩:=hm.settle (i:=1) rfl
    obtain⟨h3,l3,s2,hm⟩:=hm.settle (i:=2) rfl
    have hr:rep h3 r [.slice a0 r.tm.length c0,.slice a1 r.turns.length c1,.slice a2 r.legs.length c2] :=
      Aa (Ae ⟨x0,k0.mono (QU l1 (QU l2 l3)),s0.mono (QU l2 l3),n0⟩) (Aa (Ae ⟨x1,k1.mono (QU l1 (QU l2 l3)),s1.mono l3,n1⟩) (Ae ⟨x2,k2.mono (QU l1 (QU l2 l3)),s2,n2⟩))
    subst he
    exact HU (F:=⟨w,h,Az⟩) hm ⟨_,rfl,hr⟩
end Go.Proofs.Ytokchpjijlebiaa
