/- Each call computes its plain function. -/
import Derived.Test.YtokchpjijlebiaaProg
import Derived.Test.YtokchpjijlebiaaBGP0
set_option linter.all false
namespace Go.Proofs.Ytokchpjijlebiaa
open Go Go.RowKit
open Rep (rep)
open KRep (kv)
open VRep (rv)
set_option maxRecDepth 100000 in
set_option maxHeartbeats 4000000 in
theorem C7 (n:Nat) {h:Ae} {w:World} (hh:Dn h w) (s:List Int) {a_s:Option Addr} {c_s:Nat} (hr_s:A6 h a_s c_s s) {r:List Int} (H:Br n s=some r) :
  Calls Try.prog 87 #[.slice a_s s.length c_s] w (Dp (fun h v=>∃ a c,v=.slice a r.length c∧A6 h a c r) h w):=by
 refine enter 8 [.c (.slice a_s s.length c_s)] Try.func87 rfl rfl rfl rfl fun t hk=>?_
 have hm:=Ah.begin h w hh
 unfold Br at H
 refine XT (Aa (Rk 0 1 [tS 0 a_s s.length c_s] hk hm fun ap ad=>?_))
 refine wf (XT (XT (Aa (Rk 0 2 [tB 4 a_s.isNone,tS 0 a_s s.length c_s] ad hm fun ar k=>?_))))
 refine wf (wC (a_s.isNone) k (fun x=>?_) (fun x=>?_))
 ·
  obtain rfl:=A6.isNil hr_s (by decide) x
  replace H:some ([]:List Int)=some r:=by simpa [HU] using H
  refine XT (Aa (Rk 0 1 [tS 2 none 0 0] k hm fun av ag=>?_))
  refine wf (wp_ret ?_)
  obtain rfl:=XZ H
  exact rt (.one (.c (.slice none 0 0))) ag hm ⟨_,_,rfl,A6.nil⟩
 ·
  refine wp_skip (XT (Aa (wl fun K hK=>?_)))
  refine wS 3 1 [] k hm fun f an ao (ab:Kn 8 [] [tS 5 f 0 0,tB 4 a_s.isNone,tS 0 a_s s.length c_s] an) (l:Ah ⟨w,h,Aj⟩ h [] [] [⟨f,0,0,3,1,([]:List Value),0⟩] ao)=>?_
  have z:Ag h ([]:List Int) ([]:List Value):=Ag.nil
  refine hK _ _ ?_
  refine Rk 1 1 [tS 6 a_s s.length c_s,tS 5 f 0 0] ab l fun aq ac=>?_
  obtain⟨e,g,al,_⟩:=id hr_s
  obtain⟨x7,ex7,H⟩:=Aq H
  obtain⟨p,ah⟩:=A8 ex7
  refine wl fun K hK=>?_
  refine A3 0 8 s.length _ (x7.length) _ e ac l rfl rfl (by decide) rfl (by rfl) (by kernel_rfl) (by rfl) (by rfl) (Ag.len g) (al.cell l.has g.one) g.one (by rw [p]; simp) (by rw [p]; exact ah) (by decide) fun b d q am y aa (ae:Kn 8 [] [tS 7 b x7.length d,tS 6 a_s s.length c_s,tS 5 f 0 0] am) (m:Ah ⟨w,h,Aj⟩ h [] [] [⟨b,x7.length,d,3,1,([]:List Value)++e,q⟩] y)=>?_
  have j:Ag h x7 (([]:List Value)++e):=by rw [p]; exact Ag.append z g
  obtain rfl:q=0:=Nat.le_zero.1 aa
  refine hK _ _ ?_
  refine Rk 3 1 [tS 2 b x7.length d] ae m fun au af=>?_
  refine wf (wp_ret ?_)
  obtain⟨u,ai,ak,o⟩:=m.settle (i:=0) rfl
  replace j:=j.mono ai
  replace o:Ah ⟨w,h,Aj⟩ u [] [] [⟨b,x7.length,d,3,1,([]:List Value)++e,((([]:List Value)++e):List Value).length⟩] y:=o
  have aj:A6 u b d x7:=⟨_,j,ak,m.rowCap (i:=0) rfl⟩
  obtain rfl:=XZ H
  exact rt (.one (.c (.slice b x7.length d))) af o ⟨_,_,rfl,aj⟩
set_option maxRecDepth 100000 in
set_option maxHeartbeats 4000000 in
theorem Hh (n:Nat) {h:Ae} {w:World} (hh:Dn h w) (s:List Bool) {a_s:Option Addr} {c_s:Nat} (hr_s:A6 h a_s c_s s) {r:List Bool} (H:Cf n s=some r) :
  Calls Try.prog 88 #[.slice a_s s.length c_s] w (Dp (fun h v=>∃ a c,v=.slice a r.length c∧A6 h a c r) h w):=by
 refine enter 8 [.c (.slice a_s s.length c_s)] Try.func88 rfl rfl rfl rfl fun t hk=>?_
 have hm:=Ah.begin h w hh
 unfold Cf at H
 refine XT (Aa (Rk 0 1 [tS 0 a_s s.length c_s] hk hm fun ap ad=>?_))
 refine wf (XT (XT (Aa (Rk 0 2 [tB 4 a_s.isNone,tS 0 a_s s.length c_s] ad hm fun ar k=>?_))))
 refine wf (wC (a_s.isNone) k (fun x=>?_) (fun x=>?_))
 ·
  obtain rfl:=A6.isNil hr_s (by decide) x
  replace H:some ([]:List Bool)=some r:=by simpa [HU] using H
  refine XT (Aa (Rk 0 1 [tS 2 none 0 0] k hm fun av ag=>?_))
  refine wf (wp_ret ?_)
  obtain rfl:=XZ H
  exact rt (.one (.c (.slice none 0 0))) ag hm ⟨_,_,rfl,A6.nil⟩
 ·
  refine wp_skip (XT (Aa (wl fun K hK=>?_)))
  refine wS 4 1 [] k hm fun f an ao (ab:Kn 8 [] [tS 5 f 0 0,tB 4 a_s.isNone,tS 0 a_s s.length c_s] an) (l:Ah ⟨w,h,Aj⟩ h [] [] [⟨f,0,0,4,1,([]:List Value),0⟩] ao)=>?_
  have z:Ag h ([]:List Bool) ([]:List Value):=Ag.nil
  refine hK _ _ ?_
  refine Rk 1 1 [tS 6 a_s s.length c_s,tS 5 f 0 0] ab l fun aq ac=>?_
  obtain⟨e,g,al,_⟩:=id hr_s
  obtain⟨x7,ex7,H⟩:=Aq H
  obtain⟨p,ah⟩:=A8 ex7
  refine wl fun K hK=>?_
  refine A3 0 1 s.length _ (x7.length) _ e ac l rfl rfl (by decide) rfl (by rfl) (by kernel_rfl) (by rfl) (by rfl) (Ag.len g) (al.cell l.has g.one) g.one (by rw [p]; simp) (by rw [p]; exact ah) (by decide) fun b d q am y aa (ae:Kn 8 [] [tS 7 b x7.length d,tS 6 a_s s.length c_s,tS 5 f 0 0] am) (m:Ah ⟨w,h,Aj⟩ h [] [] [⟨b,x7.length,d,4,1,([]:List Value)++e,q⟩] y)=>?_
  have j:Ag h x7 (([]:List Value)++e):=by rw [p]; exact Ag.append z g
  obtain rfl:q=0:=Nat.le_zero.1 aa
  refine hK _ _ ?_
  refine Rk 3 1 [tS 2 b x7.length d] ae m fun au af=>?_
  refine wf (wp_ret ?_)
  obtain⟨u,ai,ak,o⟩:=m.settle (i:=0) rfl
  replace j:=j.mono ai
  replace o:Ah ⟨w,h,Aj⟩ u [] [] [⟨b,x7.length,d,4,1,([]:List Value)++e,((([]:List Value)++e):List Value).length⟩] y:=o
  have aj:A6 u b d x7:=⟨_,j,ak,m.rowCap (i:=0) rfl⟩
  obtain rfl:=XZ H
  exact rt (.one (.c (.slice b x7.length d))) af o ⟨_,_,rfl,aj⟩
set_option maxRecDepth 100000 in
set_option maxHeartbeats 4000000 in
theorem Jb (n:Nat) {h:Ae} {w:World} (hh:Dn h w) (x:List Int) {a_x:Option Addr} {c_x:Nat} (hr_x:A6 h a_x c_x x) {r:Int} (H:DU n x=some r) :
  Calls Try.prog 89 #[.slice a_x x.length c_x] w (Dp (fun h v=>v=.int .i64 r) h w):=by
 refine enter 25 [.c (.slice a_x x.length c_x)] Try.func89 rfl rfl rfl rfl fun t hk=>?_
 have hm:=Ah.begin h w hh
 unfold DU at H
 refine XT (Aa (Rk 0 1 [tS 0 a_x x.length c_x] hk hm fun bb aj=>?_))
 refine wf (XT (XT (Aa (Rk 0 3 [tB 7 (decide (((x.length:Nat):Int)<1)),tS 0 a_x x.length c_x] aj hm fun be ab=>?_))))
 refine wf (wC (decide (((x.length:Nat):Int)<1)) ab (fun l=>?_) (fun l=>?_))
 ·
  rw [l,XW] at H
  cases H
 ·
  rw [l,XV] at H
  refine wp_skip (XT (Aa (Rk 0 1 [tS 9 a_x x.length c_x,tS 0 a_x x.length c_x] ab hm fun bj av=>?_)))
  obtain⟨x10,ex10,H⟩:=Aq H
  obtain⟨aw,ay,a2⟩:=Ai ex10
  obtain⟨b,d,a8,ae,a0,ag⟩:=hr_x.get (by decide) a2
  obtain rfl:=a0
  have p:Ah ⟨w,h,Aj⟩ h [(b,d+(0:Int).toNat*1)] [⟨[.int .i64 x10],none⟩] [] w:=hm.addPlc (cs:=[.int .i64 x10]) (fun j c hj=>ag j _ (Al hj)) rfl (by kernel_rfl) (by kernel_rfl)
  refine Bc 1 (0) rfl rfl (rfl) rfl (by decide) av (by rfl) (by rfl) (by rfl) ae (by rfl) aw ay (by kernel_rfl) fun a5 (ai:Kn 25 [(b,d+(0:Int).toNat*1)] [tP 10 0 0,tS 9 a_x x.length c_x,tS 0 a_x x.length c_x] a5)=>?_
  refine Rk 2 2 [tI 3 x10,tS 0 a_x x.length c_x] ai p fun bc ak=>?_
  refine wf (XT (XT (Aa (Rk 0 1 [tI 4 1,tI 3 x10,tS 0 a_x x.length c_x] ak p fun bd al=>?_))))
  refine wf ?_
  obtain⟨g,aa,H⟩:=Aq H
  refine Av (fun a' w'=>∃ (u:Array Value)(i:Ae),a' = ⟨u,[]⟩∧Kn 25 [(b,d+(0:Int).toNat*1)] [tI 3 g] u∧Ah ⟨w,h,Aj⟩ i [(b,d+(0:Int).toNat*1)] [⟨[.int .i64 x10],none⟩] [] w'∧Ae.le h i) ?_ ?_
  ·
   refine wp_block ?_
   refine Ar (fun a4 a' w'=>∃ (x_v10:Int)(x_v11:Int)(y:Array Value)(e:Ae),a' = ⟨y,[]⟩∧Kn 25 [(b,d+(0:Int).toNat*1)] [tI 4 x_v10,tI 3 x_v11,tS 0 a_x x.length c_x] y∧Ah ⟨w,h,Aj⟩ e [(b,d+(0:Int).toNat*1)] [⟨[.int .i64 x10],none⟩] [] w'∧Ae.le h e∧B6 a4 x x_v10 x_v11=some g) n ?_ ?_
   ·
    exact XY 1 ⟨x10,_,_,rfl,al.kp,p,Ae.le_refl _,aa⟩
   ·
    rintro s _ a7 ⟨x_v10,x_v11,y,e,rfl,am,f,o,a⟩
    clear aa
    obtain _ | s:=s
    ·
     rw [B6] at a; cases a
    rw [B6] at a
    replace hr_x:=hr_x.mono o
    refine XT (XT (Aa (Rk 0 4 [tB 15 (decide (x_v10<((x.length:Nat):Int))),tI 4 x_v10,tI 3 x_v11,tS 0 a_x x.length c_x] am f fun bf m=>?_)))
    refine wf (wC (decide (x_v10<((x.length:Nat):Int))) m (fun k=>?_) (fun k=>?_))
    ·
     rw [k,XW] at a
     refine wp_skip (XT (wp_block (Aa (Rk 0 3 [tI 20 x_v10,tS 19 a_x x.length c_x,tI 18 x_v11,tI 4 x_v10,tS 0 a_x x.length c_x] m f fun bg an=>?_))))
     obtain⟨x21,ex21,a⟩:=Aq a
     obtain⟨ax,az,a3⟩:=Ai ex21
     obtain⟨z,ad,a9,af,a1,ah⟩:=hr_x.get (by decide) a3
     obtain rfl:=a1
     have q:Ah ⟨w,h,Aj⟩ e [(b,d+(0:Int).toNat*1),(z,ad+(x_v10:Int).toNat*1)] [⟨[.int .i64 x10],none⟩,⟨[.int .i64 x21],none⟩] [] a7:=f.addPlc (cs:=[.int .i64 x21]) (fun j c hj=>ah j _ (Al hj)) rfl (by kernel_rfl) (by kernel_rfl)
     refine Bc 3 (x_v10) rfl rfl (rfl) rfl (by decide) an (by rfl) (by rfl) (by rfl) af (by rfl) ax az (by kernel_rfl) fun a6 (ao:Kn 25 [(b,d+(0:Int).toNat*1),(z,ad+(x_v10:Int).toNat*1)] [tP 21 1 0,tI 20 x_v10,tS 19 a_x x.length c_x,tI 18 x_v11,tI 4 x_v10,tS 0 a_x x.length c_x] a6)=>?_
     refine Rk 4 3 [tI 3 (if x21>x_v11 then x21 else x_v11),tI 4 x_v10,tS 0 a_x x.length c_x] ao q fun bh ap=>?_
     refine wf (Aa (Rk 0 3 [tI 4 (IntKind.i64.wrap (x_v10+1)),tI 3 (if x21>x_v11 then x21 else x_v11),tS 0 a_x x.length c_x] ap q fun bi aq=>?_))
     refine wf ?_
     exact XY s ⟨Nat.lt_succ_self _,XY (IntKind.i64.wrap (x_v10+1)) ⟨(if x21>x_v11 then x21 else x_v11),_,_,rfl,(aq.keep [4,3,0] (by rfl)).cut 1 (by kernel_rfl),q.cutPl 1 (by kernel_rfl),o,a⟩⟩
    ·
     rw [k,XV] at a
     refine wp_exit ?_
     obtain rfl:=XZ a
     exact XY _ ⟨_,rfl,m.kp,f,o⟩
  ·
   rintro _ bl ⟨u,i,rfl,ar,ac,ba⟩
   refine XT (Aa (Rk 0 2 [tI 2 g] ar ac fun bk au=>?_))
   refine wf (wp_ret ?_)
   obtain rfl:=XZ H
   exact rt (.one (.c (.int .i64 g))) au ac rfl
set_option maxRecDepth 100000 in
set_option maxHeartbeats 4000000 in
theorem Jc (n:Nat) {h:Ae} {w:World} (hh:Dn h w) (x:List Int) {a_x:Option Addr} {c_x:Nat} (hr_x:A6 h a_x c_x x) {r:Int} (H:CQ n x=some r) :
  Calls Try.prog 90 #[.slice a_x x.length c_x] w (Dp (fun h v=>v=.int .i64 r) h w):=by
 refine enter 25 [.c (.slice a_x x.length c_x)] Try.func90 rfl rfl rfl rfl fun t hk=>?_
 have hm:=Ah.begin h w hh
 unfold CQ at H
 refine XT (Aa (Rk 0 1 [tS 0 a_x x.length c_x] hk hm fun bb aj=>?_))
 refine wf (XT (XT (Aa (Rk 0 3 [tB 7 (decide (((x.length:Nat):Int)<1)),tS 0 a_x x.length c_x] aj hm fun be ab=>?_))))
 refine wf (wC (decide (((x.length:Nat):Int)<1)) ab (fun l=>?_) (fun l=>?_))
 ·
  rw [l,XW] at H
  cases H
 ·
  rw [l,XV] at H
  refine wp_skip (XT (Aa (Rk 0 1 [tS 9 a_x x.length c_x,tS 0 a_x x.length c_x] ab hm fun bj av=>?_)))
  obtain⟨x10,ex10,H⟩:=Aq H
  obtain⟨aw,ay,a2⟩:=Ai ex10
  obtain⟨b,d,a8,ae,a0,ag⟩:=hr_x.get (by decide) a2
  obtain rfl:=a0
  have p:Ah ⟨w,h,Aj⟩ h [(b,d+(0:Int).toNat*1)] [⟨[.int .i64 x10],none⟩] [] w:=hm.addPlc (cs:=[.int .i64 x10]) (fun j c hj=>ag j _ (Al hj)) rfl (by kernel_rfl) (by kernel_rfl)
  refine Bc 1 (0) rfl rfl (rfl) rfl (by decide) av (by rfl) (by rfl) (by rfl) ae (by rfl) aw ay (by kernel_rfl) fun a5 (ai:Kn 25 [(b,d+(0:Int).toNat*1)] [tP 10 0 0,tS 9 a_x x.length c_x,tS 0 a_x x.length c_x] a5)=>?_
  refine Rk 2 2 [tI 3 x10,tS 0 a_x x.length c_x] ai p fun bc ak=>?_
  refine wf (XT (XT (Aa (Rk 0 1 [tI 4 1,tI 3 x10,tS 0 a_x x.length c_x] ak p fun bd al=>?_))))
  refine wf ?_
  obtain⟨g,aa,H⟩:=Aq H
  refine Av (fun a' w'=>∃ (u:Array Value)(i:Ae),a' = ⟨u,[]⟩∧Kn 25 [(b,d+(0:Int).toNat*1)] [tI 3 g] u∧Ah ⟨w,h,Aj⟩ i [(b,d+(0:Int).toNat*1)] [⟨[.int .i64 x10],none⟩] [] w'∧Ae.le h i) ?_ ?_
  ·
   refine wp_block ?_
   refine Ar (fun a4 a' w'=>∃ (x_v10:Int)(x_v11:Int)(y:Array Value)(e:Ae),a' = ⟨y,[]⟩∧Kn 25 [(b,d+(0:Int).toNat*1)] [tI 4 x_v10,tI 3 x_v11,tS 0 a_x x.length c_x] y∧Ah ⟨w,h,Aj⟩ e [(b,d+(0:Int).toNat*1)] [⟨[.int .i64 x10],none⟩] [] w'∧Ae.le h e∧Bh a4 x x_v10 x_v11=some g) n ?_ ?_
   ·
    exact XY 1 ⟨x10,_,_,rfl,al.kp,p,Ae.le_refl _,aa⟩
   ·
    rintro s _ a7 ⟨x_v10,x_v11,y,e,rfl,am,f,o,a⟩
    clear aa
    obtain _ | s:=s
    ·
     rw [Bh] at a; cases a
    rw [Bh] at a
    replace hr_x:=hr_x.mono o
    refine XT (XT (Aa (Rk 0 4 [tB 15 (decide (x_v10<((x.length:Nat):Int))),tI 4 x_v10,tI 3 x_v11,tS 0 a_x x.length c_x] am f fun bf m=>?_)))
    refine wf (wC (decide (x_v10<((x.length:Nat):Int))) m (fun k=>?_) (fun k=>?_))
    ·
     rw [k,XW] at a
     refine wp_skip (XT (wp_block (Aa (Rk 0 3 [tI 20 x_v10,tS 19 a_x x.length c_x,tI 18 x_v11,tI 4 x_v10,tS 0 a_x x.length c_x] m f fun bg an=>?_))))
     obtain⟨x21,ex21,a⟩:=Aq a
     obtain⟨ax,az,a3⟩:=Ai ex21
     obtain⟨z,ad,a9,af,a1,ah⟩:=hr_x.get (by decide) a3
     obtain rfl:=a1
     have q:Ah ⟨w,h,Aj⟩ e [(b,d+(0:Int).toNat*1),(z,ad+(x_v10:Int).toNat*1)] [⟨[.int .i64 x10],none⟩,⟨[.int .i64 x21],none⟩] [] a7:=f.addPlc (cs:=[.int .i64 x21]) (fun j c hj=>ah j _ (Al hj)) rfl (by kernel_rfl) (by kernel_rfl)
     refine Bc 3 (x_v10) rfl rfl (rfl) rfl (by decide) an (by rfl) (by rfl) (by rfl) af (by rfl) ax az (by kernel_rfl) fun a6 (ao:Kn 25 [(b,d+(0:Int).toNat*1),(z,ad+(x_v10:Int).toNat*1)] [tP 21 1 0,tI 20 x_v10,tS 19 a_x x.length c_x,tI 18 x_v11,tI 4 x_v10,tS 0 a_x x.length c_x] a6)=>?_
     refine Rk 4 3 [tI 3 (if x21<x_v11 then x21 else x_v11),tI 4 x_v10,tS 0 a_x x.length c_x] ao q fun bh ap=>?_
     refine wf (Aa (Rk 0 3 [tI 4 (IntKind.i64.wrap (x_v10+1)),tI 3 (if x21<x_v11 then x21 else x_v11),tS 0 a_x x.length c_x] ap q fun bi aq=>?_))
     refine wf ?_
     exact XY s ⟨Nat.lt_succ_self _,XY (IntKind.i64.wrap (x_v10+1)) ⟨(if x21<x_v11 then x21 else x_v11),_,_,rfl,(aq.keep [4,3,0] (by rfl)).cut 1 (by kernel_rfl),q.cutPl 1 (by kernel_rfl),o,a⟩⟩
    ·
     rw [k,XV] at a
     refine wp_exit ?_
     obtain rfl:=XZ a
     exact XY _ ⟨_,rfl,m.kp,f,o⟩
  ·
   rintro _ bl ⟨u,i,rfl,ar,ac,ba⟩
   refine XT (Aa (Rk 0 2 [tI 2 g] ar ac fun bk au=>?_))
   refine wf (wp_ret ?_)
   obtain rfl:=XZ H
   exact rt (.one (.c (.int .i64 g))) au ac rfl
set_option maxRecDepth 100000 in
set_option maxHeartbeats 4000000 in
theorem LP (n:Nat) {h:Ae} {w:World} (hh:Dn h w) (l:List Int) {a_l:Option Addr} {c_l:Nat} (hr_l:A6 h a_l c_l l) {r:Int} (H:Ew n l=some r) :
  Calls Try.prog 57 #[.slice a_l l.length c_l] w (Dp (fun h v=>v=.int .i64 r) h w):=by
 refine enter 5 [.c (.slice a_l l.length c_l)] Try.func57 rfl rfl rfl rfl fun t hk=>?_
 have hm:=Ah.begin h w hh
 unfold Ew at H
 refine XT (Aa (Rk 0 1 [tS 0 a_l l.length c_l] hk hm fun m f=>?_))
 refine wf (XT (Aa (Rk 0 1 [tS 3 a_l l.length c_l] f hm fun p g=>?_)))
 obtain⟨x4,ex4,H⟩:=Aq H
 refine wl fun K hK=>?_
 refine wc [.c (.slice a_l l.length c_l)] g hm (Jb n hm.has l hr_l ex4) fun q j s b k a=>?_
 obtain rfl:=b
 refine⟨.one (.c (.int .i64 x4)),rfl,fun i (d:Kn 5 [] [tI 4 x4,tS 3 a_l l.length c_l] i)=>hK _ _ ?_⟩
 refine Rk 2 1 [tI 2 x4] d a fun o e=>?_
 refine wf (wp_ret ?_)
 obtain rfl:=XZ H
 exact rt (.one (.c (.int .i64 x4))) e a rfl
set_option maxRecDepth 100000 in
set_option maxHeartbeats 4000000 in
theorem EL (n:Nat) {h:Ae} {w:World} (hh:Dn h w) (l:List Int) {a_l:Option Addr} {c_l:Nat} (hr_l:A6 h a_l c_l l) {r:Int} (H:BI n l=some r) :
  Calls Try.prog 59 #[.slice a_l l.length c_l] w (Dp (fun h v=>v=.int .i64 r) h w):=by
 refine enter 5 [.c (.slice a_l l.length c_l)] Try.func59 rfl rfl rfl rfl fun t hk=>?_
 have hm:=Ah.begin h w hh
 unfold BI at H
 refine XT (Aa (Rk 0 1 [tS 0 a_l l.length c_l] hk hm fun m f=>?_))
 refine wf (XT (Aa (Rk 0 1 [tS 3 a_l l.length c_l] f hm fun p g=>?_)))
 obtain⟨x4,ex4,H⟩:=Aq H
 refine wl fun K hK=>?_
 refine wc [.c (.slice a_l l.length c_l)] g hm (Jc n hm.has l hr_l ex4) fun q j s b k a=>?_
 obtain rfl:=b
 refine⟨.one (.c (.int .i64 x4)),rfl,fun i (d:Kn 5 [] [tI 4 x4,tS 3 a_l l.length c_l] i)=>hK _ _ ?_⟩
 refine Rk 2 1 [tI 2 x4] d a fun o e=>?_
 refine wf (wp_ret ?_)
 obtain rfl:=XZ H
 exact rt (.one (.c (.int .i64 x4))) e a rfl
abbrev He (x15:Rg):List SC:=[.int .i64 x15.lo,.int .i64 x15.hi]
abbrev Oz (x30:Cy):List SC:=[.int .i64 x30.tm.lo,.int .i64 x30.tm.hi]
abbrev D5 (r_:Af):List SC:=[.int .i64 r_.turn.lo,.int .i64 r_.turn.hi]
abbrev O0:List SC:=[.slice none 0 0,.slice none 0 0,.slice none 0 0]
abbrev EP (x30:Cy):List SC:=[.int .i64 x30.stop,.int .i64 x30.tm.lo,.int .i64 x30.tm.hi]
abbrev LQ (d l m bi bl:Nat) (x_v11:Int) (bq:Nat):Ba:=[(d,0),(l,0),(m,0),(bi,bl+(x_v11:Int).toNat*2),(bq,0)]
abbrev A0 (d l m ac ad:Nat) (x_v24:Int) (ae:Nat):Ba:=[(d,0),(l,0),(m,0),(ac,ad+(x_v24:Int).toNat*3),(ae,0)]
abbrev SH (y:Option Addr) (x_v21:List Int) (z:Nat) (u:Option Addr) (x_v22:List Int) (x:Nat) (p:Option Addr) (x_v23:List (List Int)) (s:Nat):List SC:=[.slice y x_v21.length z,.slice u x_v22.length x,.slice p x_v23.length s]
abbrev LR (am:Option Addr) (ah:((List Int)×(List Int)×(List Int)×(List (List Int)))) (ao:Nat) (an:Option Addr) (ap:Nat) (a6:Option Addr) (aw:((List Int)×(List (List Int)))) (a8:Nat):List SC:=[.slice am ah.2.1.length ao,.slice an ah.2.2.1.length ap,.slice a6 aw.2.length a8]
abbrev BG (aa:Option Addr) (r_:Af) (ab:Nat) (a:Option Addr) (b:Nat) (af:Option Addr) (ag:Nat):List SC:=[.slice aa r_.legs.length ab,.int .i64 r_.turn.lo,.int .i64 r_.turn.hi,.slice a r_.buses.length b,.slice af r_.spares.length ag,.int .i64 r_.unit,.int .i64 r_.gap,.int .i64 r_.fr,.int .i64 r_.to_]
abbrev KV (aa:Option Addr) (r_:Af) (ab:Nat) (a:Option Addr) (b:Nat) (af:Option Addr) (ag:Nat) (k:Fn) (f g:Array Value):List CP:=[⟨BG aa r_ ab a b af ag,some 43⟩,⟨[.func k f g],some 132⟩,⟨O0,some 76⟩]
abbrev Bx (aa:Option Addr) (r_:Af) (ab:Nat) (a:Option Addr) (b:Nat) (af:Option Addr) (ag:Nat) (k:Fn) (f g:Array Value) (y:Option Addr) (x_v21:List Int) (z:Nat) (u:Option Addr) (x_v22:List Int) (x:Nat) (p:Option Addr) (x_v23:List (List Int)) (s:Nat) (x30:Cy):List CP:=[⟨BG aa r_ ab a b af ag,some 43⟩,⟨[.func k f g],some 132⟩,⟨SH y x_v21 z u x_v22 x p x_v23 s,some 76⟩,⟨EP x30,none⟩,⟨EP x30,some 96⟩]
abbrev O1 (o:Option Addr) (x_v20:List Int) (q:Nat) (ai:List Value) (aq:Nat) (y:Option Addr) (x_v21:List Int) (z:Nat) (al:List Value) (u:Option Addr) (x_v22:List Int) (x:Nat) (aj:List Value) (p:Option Addr) (x_v23:List (List Int)) (s:Nat) (ak:List Value):List F2:=[⟨o,x_v20.length,q,3,1,ai,aq⟩,⟨y,x_v21.length,z,3,1,al,0⟩,⟨u,x_v22.length,x,3,1,aj,0⟩,⟨p,x_v23.length,s,31,1,ak,0⟩,⟨none,0,0,3,1,[],0⟩,⟨none,0,0,3,1,[],0⟩,⟨none,0,0,31,1,[],0⟩]
abbrev CF (x_v24:Int) (r_:Af) (a:Option Addr) (b:Nat) (o:Option Addr) (x_v20:List Int) (q:Nat):TM:=[tI 28 x_v24,tI 27 ((r_.buses.length:Nat):Int),tS 26 a r_.buses.length b,tS 5 o x_v20.length q,tP 4 2 0,tP 3 1 0,tP 2 0 0]
abbrev FB (o:Option Addr) (x_v20:List Int) (q:Nat) (p:Option Addr) (x_v23:List (List Int)) (s:Nat) (u:Option Addr) (x_v22:List Int) (x:Nat) (x30:Cy) (k:Fn) (f g:Array Value) (y:Option Addr) (x_v21:List Int) (z:Nat) (x_v24:Int) (r_:Af) (a:Option Addr) (b:Nat):TM:=(tS 52 o x_v20.length q)::(tS 51 p x_v23.length s)::(tP 45 0 1)::(tP 43 1 0)::(tS 42 u x_v22.length x)::(tA 37 (Oz x30))::(35,.one (.c (.func k f g)))::(tS 33 y x_v21.length z)::(CF x_v24 r_ a b o x_v20 q)
abbrev KW (r_:Af) (k:Fn) (f g:Array Value) (ar:Option Addr) (x40:List Int) (au:Nat) (o:Option Addr) (x_v20:List Int) (q:Nat) (p:Option Addr) (x_v23:List (List Int)) (s:Nat) (u:Option Addr) (x_v22:List Int) (x:Nat) (x_v24:Int) (a:Option Addr) (b:Nat):TM:=(tA 46 (D5 r_))::(44,.one (.c (.func k f g)))::(tP 56 2 0)::(tS 40 ar x40.length au)::(tS 52 o x_v20.length q)::(tS 51 p x_v23.length s)::(tS 42 u x_v22.length x)::(CF x_v24 r_ a b o x_v20 q)
abbrev EM (u:Option Addr) (x_v22:List Int) (x:Nat) (y:Option Addr) (x_v21:List Int) (z:Nat) (x_v24:Int) (r_:Af) (a:Option Addr) (b:Nat) (o:Option Addr) (x_v20:List Int) (q:Nat):TM:=(tS 42 u x_v22.length x)::(tS 33 y x_v21.length z)::(CF x_v24 r_ a b o x_v20 q)
abbrev Mw (x_v11:Int) (r_:Af) (aa:Option Addr) (ab:Nat) (az:Option Addr) (x_v10:List Int) (a0:Nat):TM:=[tI 13 x_v11,tI 12 ((r_.legs.length:Nat):Int),tS 11 aa r_.legs.length ab,tS 5 az x_v10.length a0,tP 4 2 0,tP 3 1 0,tP 2 0 0]
abbrev Qt (x15:Rg) (k:Fn) (f g:Array Value) (az:Option Addr) (x_v10:List Int) (a0:Nat) (x_v11:Int) (r_:Af) (aa:Option Addr) (ab:Nat):TM:=[tA 20 (He x15),(19,.one (.c (.func k f g))),tS 17 az x_v10.length a0,tI 13 x_v11,tI 12 ((r_.legs.length:Nat):Int),tS 11 aa r_.legs.length ab,tP 4 2 0,tP 3 1 0,tP 2 0 0]
abbrev JM (x_v32:Int) (r_:Af) (ax:Option Addr) (x_v30:List Int) (ay:Nat):TM:=[tI 63 x_v32,tI 62 ((r_.spares.length:Nat):Int),tS 5 ax x_v30.length ay,tP 4 2 0]
set_option maxRecDepth 100000 in
set_option maxHeartbeats 4000000 in
theorem FI (n:Nat) {h:Ae} {w:World} (hh:Dn h w) (r_:Af) {cs_r_:List Value} (hx_r_:rep h r_ cs_r_) (e:Rw) {cs_e:List Value} (hx_e:rep h e cs_e) {r:Bd} (H:Cq n r_ e=some r) :
  Calls Try.prog 67 #[.agg cs_r_.toArray,.agg cs_e.toArray] w (Dp (fun h v=>∃ cs,v=.agg cs.toArray∧rep h r cs) h w):=by
 obtain⟨_,_,rfl,⟨aa,ab,rfl,bs⟩,⟨_,_,rfl,⟨_,_,rfl,rfl,rfl⟩,⟨_,_,rfl,⟨a,b,rfl,bt⟩,⟨_,_,rfl,⟨af,ag,rfl,b0⟩,⟨_,_,rfl,rfl,⟨_,_,rfl,rfl,⟨_,_,rfl,rfl,rfl⟩⟩⟩⟩⟩⟩⟩:=hx_r_
 obtain⟨k,f,g,rfl,a4⟩:=hx_e
 refine enter 74 [.agg (BG aa r_ ab a b af ag),.agg [.func k f g]] Try.func67 rfl rfl rfl rfl fun t hk=>?_
 have hm:=Ah.begin h w hh
 unfold Cq at H
 refine XT (Aa (wl fun K hK=>?_))
 refine wb (.agg (BG aa r_ ab a b af ag)) hk hm fun d ok px (kr:Kn 74 [(d,0)] [tP 2 0 0,tA 0 (BG aa r_ ab a b af ag),tA 1 [.func k f g]] ok) (nn:Ah ⟨w,h,Aj⟩ h [(d,0)] [⟨BG aa r_ ab a b af ag,some 43⟩] [] px)=>hK _ _ ?_
 refine wl fun K hK=>?_
 refine wb (.agg [.func k f g]) kr nn fun l om p0 (ky:Kn 74 [(d,0),(l,0)] [tP 3 1 0,tP 2 0 0,tA 0 (BG aa r_ ab a b af ag),tA 1 [.func k f g]] om) (ns:Ah ⟨w,h,Aj⟩ h [(d,0),(l,0)] [⟨BG aa r_ ab a b af ag,some 43⟩,⟨[.func k f g],some 132⟩] [] p0)=>hK _ _ ?_
 refine wl fun K hK=>?_
 refine wa O0 ky ns fun m jd jg (k4:Kn 74 [(d,0),(l,0),(m,0)] [tP 4 2 0,tP 3 1 0,tP 2 0 0,tA 0 (BG aa r_ ab a b af ag),tA 1 [.func k f g]] jd) (f6:Ah ⟨w,h,Aj⟩ h [(d,0),(l,0),(m,0)] (KV aa r_ ab a b af ag k f g) [] jg)=>hK _ _ ?_
 have k9:Kn 74 [(d,0),(l,0),(m,0)] [tP 4 2 0,tP 3 1 0,tP 2 0 0] jd:=k4.kp
 refine wf (XT (Aa (Rk 0 1 [tS 5 none 0 0,tP 4 2 0,tP 3 1 0,tP 2 0 0] k9 f6 fun q5 lg=>?_)))
 refine wf (XT (XT (Aa (Rk 0 4 [tI 13 0,tI 12 ((r_.legs.length:Nat):Int),tS 11 aa r_.legs.length ab,tS 5 none 0 0,tP 4 2 0,tP 3 1 0,tP 2 0 0] lg f6 fun q6 lj=>?_))))
 refine wf ?_
 have nt:Ah ⟨w,h,Aj⟩ h [(d,0),(l,0),(m,0)] (KV aa r_ ab a b af ag k f g) [⟨none,0,0,3,1,[],0⟩] jg:=f6.nilRow 3 1
 have j3:Ag h ([]:List Int) []:=Ag.nil
 obtain⟨b6,hf,H⟩:=Aq H
 refine Av (fun a' w'=>∃ (ca:Option Addr)(ce:Nat)(cv:List Value)(g9:Array Value)(bo:Ae),a' = ⟨g9,[]⟩∧Kn 74 [(d,0),(l,0),(m,0)] [tS 5 ca b6.length ce,tP 4 2 0,tP 3 1 0,tP 2 0 0] g9∧Ah ⟨w,h,Aj⟩ bo [(d,0),(l,0),(m,0)] (KV aa r_ ab a b af ag k f g) [⟨ca,b6.length,ce,3,1,cv,0⟩] w'∧Ae.le h bo∧Ag bo b6 cv) ?_ ?_
 ·
  refine wp_block ?_
  refine Ar (fun oh a' w'=>∃ (x_v10:List Int)(x_v11:Int)(az:Option Addr)(a0:Nat)(bv:List Value)(ha:Array Value)(ch:Ae),a' = ⟨ha,[]⟩∧Kn 74 [(d,0),(l,0),(m,0)] (Mw x_v11 r_ aa ab az x_v10 a0) ha∧Ah ⟨w,h,Aj⟩ ch [(d,0),(l,0),(m,0)] (KV aa r_ ab a b af ag k f g) [⟨az,x_v10.length,a0,3,1,bv,0⟩] w'∧Ae.le h ch∧Ag ch x_v10 bv∧B7 oh r_ e x_v10 x_v11=some b6) n ?_ ?_
  ·
   exact XY ([]:List Int) ⟨0,none,0,[],_,_,rfl,lj.kp,nt,Ae.le_refl _,j3,hf⟩
  ·
   rintro gw _ qf ⟨x_v10,x_v11,az,a0,bv,ha,ch,rfl,mh,gc,dc,eh,bk⟩
   clear hf
   obtain _ | gw:=gw
   ·
    rw [B7] at bk; cases bk
   rw [B7] at bk
   replace bs:=bs.mono dc
   replace bt:=bt.mono dc
   replace b0:=b0.mono dc
   replace a4:=a4.mono dc
   refine XT (Aa (Rk 0 1 ((tB 14 (decide (x_v11<((r_.legs.length:Nat):Int))))::(Mw x_v11 r_ aa ab az x_v10 a0)) mh gc fun re ft=>?_))
   refine wf (XT (wC (decide (x_v11<((r_.legs.length:Nat):Int))) ft (fun ff=>?_) (fun ff=>?_)))
   ·
    rw [ff,XW] at bk
    refine wp_skip (XT (wp_block (XT (Aa ?_))))
    obtain⟨x15,ex15,bk⟩:=Aq bk
    obtain⟨ny,n0,oe⟩:=Ai ex15
    obtain⟨bi,bl,qo,jq,oc,kc⟩:=bs.get (by decide) oe
    obtain⟨_,_,rfl,rfl,rfl⟩:=oc
    have i3:Ah ⟨w,h,Aj⟩ ch [(d,0),(l,0),(m,0),(bi,bl+(x_v11:Int).toNat*2)] [⟨BG aa r_ ab a b af ag,some 43⟩,⟨[.func k f g],some 132⟩,⟨O0,some 76⟩,⟨He x15,none⟩] [⟨az,x_v10.length,a0,3,1,bv,0⟩] qf:=gc.addPlc (cs:=(He x15)) (fun j c hj=>kc j _ (Al hj)) rfl (by kernel_rfl) (by kernel_rfl)
    refine Bc 0 (x_v11) rfl rfl (rfl) rfl (by decide) ft (by rfl) (by rfl) (by rfl) jq (by rfl) ny n0 (by kernel_rfl) fun pt (mx:Kn 74 [(d,0),(l,0),(m,0),(bi,bl+(x_v11:Int).toNat*2)] ((tP 15 3 0)::(tB 14 (decide (x_v11<((r_.legs.length:Nat):Int))))::(Mw x_v11 r_ aa ab az x_v10 a0)) pt)=>?_
    refine Rk 1 1 ((tA 16 (He x15))::(Mw x_v11 r_ aa ab az x_v10 a0)) mx i3 fun rg my=>?_
    refine wl fun K hK=>?_
    refine wa [.int .i64 0,.int .i64 0] my i3 fun bq je qk (mz:Kn 74 (LQ d l m bi bl x_v11 bq) ((tP 7 4 0)::(tA 16 (He x15))::(Mw x_v11 r_ aa ab az x_v10 a0)) je) (nv:Ah ⟨w,h,Aj⟩ ch (LQ d l m bi bl x_v11 bq) [⟨BG aa r_ ab a b af ag,some 43⟩,⟨[.func k f g],some 132⟩,⟨O0,some 76⟩,⟨He x15,none⟩,⟨[.int .i64 0,.int .i64 0],some 39⟩] [⟨az,x_v10.length,a0,3,1,bv,0⟩] qk)=>hK _ _ ?_
    refine wl fun K hK=>?_
    refine G2 4 0 (.agg (He x15)) (He x15) mz nv fun ql m0 (gh:Ah ⟨w,h,Aj⟩ ch (LQ d l m bi bl x_v11 bq) [⟨BG aa r_ ab a b af ag,some 43⟩,⟨[.func k f g],some 132⟩,⟨O0,some 76⟩,⟨He x15,none⟩,⟨He x15,some 39⟩] [⟨az,x_v10.length,a0,3,1,bv,0⟩] ql)=>hK _ _ ?_
    have m1:Kn 74 (LQ d l m bi bl x_v11 bq) ((tP 7 4 0)::(Mw x_v11 r_ aa ab az x_v10 a0)) je:=m0.kp
    refine wf (Aa (Rk 0 4 (Qt x15 k f g az x_v10 a0 x_v11 r_ aa ab) m1 gh fun rh m2=>?_))
    obtain⟨x21,ex21,bk⟩:=Aq bk
    refine wl fun K hK=>?_
    refine DB (.func k f g) [.agg (He x15)] _ m2 gh rfl rfl (by decide) (by rfl) (by rfl) rfl (a4 _ _ (Ae.le_refl _) gh.has x15 _ ((Ab Ac Ac):rep ch x15 _) _ ex21) fun rp dt sb jo ib nw=>?_
    replace eh:=eh.mono ib
    obtain rfl:=jo
    refine⟨.one (.c (.int .i64 x21)),rfl,fun pu (m3:Kn 74 (LQ d l m bi bl x_v11 bq) ((tI 21 x21)::(Qt x15 k f g az x_v10 a0 x_v11 r_ aa ab)) pu)=>hK _ _ ?_⟩
    refine wl fun K hK=>?_
    refine wS 3 1 [.int .i64 x21] m3 nw fun d8 pv qm (m4:Kn 74 (LQ d l m bi bl x_v11 bq) ((tS 22 d8 1 1)::(tI 21 x21)::(Qt x15 k f g az x_v10 a0 x_v11 r_ aa ab)) pv) (i4:Ah ⟨w,h,Aj⟩ dt (LQ d l m bi bl x_v11 bq) [⟨BG aa r_ ab a b af ag,some 43⟩,⟨[.func k f g],some 132⟩,⟨O0,some 76⟩,⟨He x15,none⟩,⟨He x15,some 39⟩] [⟨az,x_v10.length,a0,3,1,bv,0⟩,⟨d8,1,1,3,1,([.int .i64 x21]:List Value),0⟩] qm)=>?_
    have fm:Ag dt ([x21]:List Int) ([.int .i64 x21]:List Value):=⟨_,_,rfl,(Ac:rep dt (x21:Int) _),rfl⟩
    refine hK _ _ ?_
    obtain⟨x23,ex23,bk⟩:=Aq bk
    obtain⟨gk,m5⟩:=A8 ex23
    refine wl fun K hK=>?_
    refine A3 0 8 1 _ (x23.length) _ ([.int .i64 x21]:List Value) m4 i4 rfl rfl (by decide) rfl (by rfl) (by kernel_rfl) (by rfl) (by rfl) (Ag.len fm) (i4.rowCell (i:=1) rfl) fm.one (by rw [gk]; simp) (by rw [gk]; exact m5) (by decide) fun dd di hl oj pw kd (kl:Kn 74 (LQ d l m bi bl x_v11 bq) ((tS 23 dd x23.length di)::(tS 22 d8 1 1)::(tI 21 x21)::(Qt x15 k f g az x_v10 a0 x_v11 r_ aa ab)) oj) (f1:Ah ⟨w,h,Aj⟩ dt (LQ d l m bi bl x_v11 bq) [⟨BG aa r_ ab a b af ag,some 43⟩,⟨[.func k f g],some 132⟩,⟨O0,some 76⟩,⟨He x15,none⟩,⟨He x15,some 39⟩] [⟨dd,x23.length,di,3,1,bv++([.int .i64 x21]:List Value),hl⟩,⟨d8,1,1,3,1,([.int .i64 x21]:List Value),0⟩] pw)=>?_
    have jr:Ag dt x23 (bv++([.int .i64 x21]:List Value)):=by rw [gk]; exact Ag.append eh fm
    obtain rfl:hl=0:=Nat.le_zero.1 kd
    refine hK _ _ ?_
    refine Rk 7 1 [tS 5 dd x23.length di,tI 13 x_v11,tI 12 ((r_.legs.length:Nat):Int),tS 11 aa r_.legs.length ab,tP 4 2 0,tP 3 1 0,tP 2 0 0] kl f1 fun qx km=>?_
    refine wf (Aa (Rk 0 2 [tI 13 (IntKind.i64.wrap (x_v11+1)),tS 5 dd x23.length di,tI 12 ((r_.legs.length:Nat):Int),tS 11 aa r_.legs.length ab,tP 4 2 0,tP 3 1 0,tP 2 0 0] km f1 fun qy kn=>?_))
    refine wf ?_
    exact XY gw ⟨Nat.lt_succ_self _,XY x23 ⟨IntKind.i64.wrap (x_v11+1),dd,di,bv++([.int .i64 x21]:List Value),_,_,rfl,(kn.keep [13,12,11,5,4,3,2] (by rfl)).cut 3 (by kernel_rfl),(f1.cutRw 1).cutPl 3 (by kernel_rfl),XU dc ib,jr,bk⟩⟩
   ·
    rw [ff,XV] at bk
    refine wp_exit ?_
    obtain rfl:=XZ bk
    exact XY az ⟨a0,bv,_,_,rfl,ft.kp,gc,dc,eh⟩
 ·
  rintro _ hd ⟨ca,ce,cv,g9,bo,rfl,ko,ic,ej,j9⟩
  replace bs:=bs.mono ej
  replace bt:=bt.mono ej
  replace b0:=b0.mono ej
  replace a4:=a4.mono ej
  refine XT (XT (Aa (Rk 0 4 [tI 28 0,tI 27 ((r_.buses.length:Nat):Int),tS 26 a r_.buses.length b,tS 5 ca b6.length ce,tP 4 2 0,tP 3 1 0,tP 2 0 0] ko ic fun qz kq=>?_)))
  refine wf ?_
  have nk:Ah ⟨w,h,Aj⟩ bo [(d,0),(l,0),(m,0)] (KV aa r_ ab a b af ag k f g) [⟨ca,b6.length,ce,3,1,cv,0⟩,⟨none,0,0,3,1,[],0⟩] hd:=ic.nilRow 3 1
  have js:Ag bo ([]:List Int) []:=Ag.nil
  have nl:Ah ⟨w,h,Aj⟩ bo [(d,0),(l,0),(m,0)] (KV aa r_ ab a b af ag k f g) [⟨ca,b6.length,ce,3,1,cv,0⟩,⟨none,0,0,3,1,[],0⟩,⟨none,0,0,3,1,[],0⟩] hd:=nk.nilRow 3 1
  have jt:Ag bo ([]:List Int) []:=Ag.nil
  have nm:Ah ⟨w,h,Aj⟩ bo [(d,0),(l,0),(m,0)] (KV aa r_ ab a b af ag k f g) [⟨ca,b6.length,ce,3,1,cv,0⟩,⟨none,0,0,3,1,[],0⟩,⟨none,0,0,3,1,[],0⟩,⟨none,0,0,31,1,[],0⟩] hd:=nl.nilRow 31 1
  have ju:Ag bo ([]:List (List Int)) []:=Ag.nil
  obtain⟨ah,he,H⟩:=Aq H
  refine Av (fun a' w'=>∃ (de:Option Addr)(dj:Nat)(ev:List Value)(fa:Nat)(am:Option Addr)(ao:Nat)(ba:List Value)(an:Option Addr)(ap:Nat)(bb:List Value)(d4:Option Addr)(d9:Nat)(ew:List Value)(gx:Array Value)(b4:Ae),a' = ⟨gx,[]⟩∧Kn 74 [(d,0),(l,0),(m,0)] [tS 5 de ah.1.length dj,tP 4 2 0,tP 2 0 0] gx∧Ah ⟨w,h,Aj⟩ b4 [(d,0),(l,0),(m,0)] [⟨BG aa r_ ab a b af ag,some 43⟩,⟨[.func k f g],some 132⟩,⟨[.slice am ah.2.1.length ao,.slice an ah.2.2.1.length ap,.slice d4 ah.2.2.2.length d9],some 76⟩] [⟨de,ah.1.length,dj,3,1,ev,fa⟩,⟨am,ah.2.1.length,ao,3,1,ba,0⟩,⟨an,ah.2.2.1.length,ap,3,1,bb,0⟩,⟨d4,ah.2.2.2.length,d9,31,1,ew,0⟩] w'∧Ae.le bo b4∧Ag b4 ah.1 ev∧Ag b4 ah.2.1 ba∧Ag b4 ah.2.2.1 bb∧Ag b4 ah.2.2.2 ew) ?_ ?_
  ·
   refine wp_block ?_
   refine Ar (fun og a' w'=>∃ (x_v20:List Int)(x_v21:List Int)(x_v22:List Int)(x_v23:List (List Int))(x_v24:Int)(o:Option Addr)(q:Nat)(ai:List Value)(aq:Nat)(y:Option Addr)(z:Nat)(al:List Value)(u:Option Addr)(x:Nat)(aj:List Value)(p:Option Addr)(s:Nat)(ak:List Value)(gy:Array Value)(av:Ae),a' = ⟨gy,[]⟩∧Kn 74 [(d,0),(l,0),(m,0)] (CF x_v24 r_ a b o x_v20 q) gy∧Ah ⟨w,h,Aj⟩ av [(d,0),(l,0),(m,0)] [⟨BG aa r_ ab a b af ag,some 43⟩,⟨[.func k f g],some 132⟩,⟨SH y x_v21 z u x_v22 x p x_v23 s,some 76⟩] [⟨o,x_v20.length,q,3,1,ai,aq⟩,⟨y,x_v21.length,z,3,1,al,0⟩,⟨u,x_v22.length,x,3,1,aj,0⟩,⟨p,x_v23.length,s,31,1,ak,0⟩] w'∧Ae.le bo av∧Ag av x_v20 ai∧Ag av x_v21 al∧Ag av x_v22 aj∧Ag av x_v23 ak∧B8 og r_ e x_v20 x_v21 x_v22 x_v23 x_v24=some ah) n ?_ ?_
   ·
    exact XY b6 ⟨([]:List Int),([]:List Int),([]:List (List Int)),0,ca,ce,cv,0,none,0,[],none,0,[],none,0,[],_,_,rfl,kq.kp,nm,Ae.le_refl _,j9,js,jt,ju,he⟩
   ·
    rintro et _ py ⟨x_v20,x_v21,x_v22,x_v23,x_v24,o,q,ai,aq,y,z,al,u,x,aj,p,s,ak,gy,av,rfl,ks,f2,db,cp,bj,ee,ef,a1⟩
    clear he
    obtain _ | et:=et
    ·
     rw [B8] at a1; cases a1
    rw [B8] at a1
    replace bs:=bs.mono db
    replace bt:=bt.mono db
    replace b0:=b0.mono db
    replace a4:=a4.mono db
    refine XT (Aa (Rk 0 1 ((tB 29 (decide (x_v24<((r_.buses.length:Nat):Int))))::(CF x_v24 r_ a b o x_v20 q)) ks f2 fun q0 fn=>?_))
    refine wf (XT (wC (decide (x_v24<((r_.buses.length:Nat):Int))) fn (fun fd=>?_) (fun fd=>?_)))
    ·
     rw [fd,XW] at a1
     refine wp_skip (XT (wp_block (XT (Aa ?_))))
     obtain⟨x30,ex30,a1⟩:=Aq a1
     obtain⟨nx,nz,od⟩:=Ai ex30
     obtain⟨ac,ad,qn,jp,ob,jx⟩:=bt.get (by decide) od
     obtain⟨_,_,rfl,rfl,⟨_,_,rfl,rfl,rfl⟩⟩:=ob
     have ie:Ah ⟨w,h,Aj⟩ av [(d,0),(l,0),(m,0),(ac,ad+(x_v24:Int).toNat*3)] [⟨BG aa r_ ab a b af ag,some 43⟩,⟨[.func k f g],some 132⟩,⟨SH y x_v21 z u x_v22 x p x_v23 s,some 76⟩,⟨EP x30,none⟩] [⟨o,x_v20.length,q,3,1,ai,aq⟩,⟨y,x_v21.length,z,3,1,al,0⟩,⟨u,x_v22.length,x,3,1,aj,0⟩,⟨p,x_v23.length,s,31,1,ak,0⟩] py:=f2.addPlc (cs:=(EP x30)) (fun j c hj=>jx j _ (Al hj)) rfl (by kernel_rfl) (by kernel_rfl)
     refine Bc 0 (x_v24) rfl rfl (rfl) rfl (by decide) fn (by rfl) (by rfl) (by rfl) jp (by rfl) nx nz (by kernel_rfl) fun ol (kt:Kn 74 [(d,0),(l,0),(m,0),(ac,ad+(x_v24:Int).toNat*3)] ((tP 30 3 0)::(tB 29 (decide (x_v24<((r_.buses.length:Nat):Int))))::(CF x_v24 r_ a b o x_v20 q)) ol)=>?_
     refine Rk 1 1 ((tA 31 (EP x30))::(CF x_v24 r_ a b o x_v20 q)) kt ie fun q1 ku=>?_
     refine wl fun K hK=>?_
     refine wa [.int .i64 0,.int .i64 0,.int .i64 0] ku ie fun ae jc pz (kv:Kn 74 (A0 d l m ac ad x_v24 ae) ((tP 9 4 0)::(tA 31 (EP x30))::(CF x_v24 r_ a b o x_v20 q)) jc) (np:Ah ⟨w,h,Aj⟩ av (A0 d l m ac ad x_v24 ae) [⟨BG aa r_ ab a b af ag,some 43⟩,⟨[.func k f g],some 132⟩,⟨SH y x_v21 z u x_v22 x p x_v23 s,some 76⟩,⟨EP x30,none⟩,⟨[.int .i64 0,.int .i64 0,.int .i64 0],some 96⟩] [⟨o,x_v20.length,q,3,1,ai,aq⟩,⟨y,x_v21.length,z,3,1,al,0⟩,⟨u,x_v22.length,x,3,1,aj,0⟩,⟨p,x_v23.length,s,31,1,ak,0⟩] pz)=>hK _ _ ?_
     refine wl fun K hK=>?_
     refine G2 4 0 (.agg (EP x30)) (EP x30) kv np fun e1 kw (el:Ah ⟨w,h,Aj⟩ av (A0 d l m ac ad x_v24 ae) (Bx aa r_ ab a b af ag k f g y x_v21 z u x_v22 x p x_v23 s x30) [⟨o,x_v20.length,q,3,1,ai,aq⟩,⟨y,x_v21.length,z,3,1,al,0⟩,⟨u,x_v22.length,x,3,1,aj,0⟩,⟨p,x_v23.length,s,31,1,ak,0⟩] e1)=>hK _ _ ?_
     have kx:Kn 74 (A0 d l m ac ad x_v24 ae) ((tP 9 4 0)::(CF x_v24 r_ a b o x_v20 q)) jc:=kw.kp
     refine wf (An (by kernel_rfl) ?_)
     replace el:=el.drew
     refine Ao [12,14] (A0 d l m ac ad x_v24 ae) (Bx aa r_ ab a b af ag k f g y x_v21 z u x_v22 x p x_v23 s x30) ?_
     refine Dr [0,1,2,3,4,5,9,10,11,13,18,19,20] [20,19,18,13,11,10,9,5,4,3,2,1,0] (FB o x_v20 q p x_v23 s u x_v22 x x30 k f g y x_v21 z x_v24 r_ a b) kx el fun q2 fo=>?_
     obtain⟨x38,ex38,a1⟩:=Aq a1
     obtain⟨x40,ex40,a1⟩:=Aq a1
     obtain⟨x47,ex47,a1⟩:=Aq a1
     obtain⟨x49,ex49,a1⟩:=Aq a1
     obtain⟨x53,ex53,a1⟩:=Aq a1
     obtain⟨x55,ex55,a1⟩:=Aq a1
     have nq:Ah ⟨w,h,Aj⟩ av (A0 d l m ac ad x_v24 ae) (Bx aa r_ ab a b af ag k f g y x_v21 z u x_v22 x p x_v23 s x30) [⟨o,x_v20.length,q,3,1,ai,aq⟩,⟨y,x_v21.length,z,3,1,al,0⟩,⟨u,x_v22.length,x,3,1,aj,0⟩,⟨p,x_v23.length,s,31,1,ak,0⟩,⟨none,0,0,3,1,[],0⟩] (World.drew e1):=el.nilRow 3 1
     have qs:Ag av ([]:List Int) []:=Ag.nil
     have nr:Ah ⟨w,h,Aj⟩ av (A0 d l m ac ad x_v24 ae) (Bx aa r_ ab a b af ag k f g y x_v21 z u x_v22 x p x_v23 s x30) [⟨o,x_v20.length,q,3,1,ai,aq⟩,⟨y,x_v21.length,z,3,1,al,0⟩,⟨u,x_v22.length,x,3,1,aj,0⟩,⟨p,x_v23.length,s,31,1,ak,0⟩,⟨none,0,0,3,1,[],0⟩,⟨none,0,0,3,1,[],0⟩] (World.drew e1):=nq.nilRow 3 1
     have qt:Ag av ([]:List Int) []:=Ag.nil
     have a9:Ah ⟨w,h,Aj⟩ av (A0 d l m ac ad x_v24 ae) (Bx aa r_ ab a b af ag k f g y x_v21 z u x_v22 x p x_v23 s x30) (O1 o x_v20 q ai aq y x_v21 z al u x_v22 x aj p x_v23 s ak) (World.drew e1):=nr.nilRow 31 1
     have qu:Ag av ([]:List (List Int)) []:=Ag.nil
     refine Cl (fun W=>∀ (ar:Option Addr),∀ (au:Nat),∀ (bp:List Value),∀ (bw:Option Addr),∀ (bz:Nat),∀ (bu:List Value),∀ a' w',(∃ (gz:Array Value)(c2:Ae),a' = ⟨gz,[]⟩∧Kn 74 (A0 d l m ac ad x_v24 ae) (KW r_ k f g ar x40 au o x_v20 q p x_v23 s u x_v22 x x_v24 a b) gz∧Ah ⟨w,h,Aj⟩ c2 (A0 d l m ac ad x_v24 ae) (Bx aa r_ ab a b af ag k f g y x_v21 z u x_v22 x p x_v23 s x30) [⟨o,x_v20.length,q,3,1,ai,aq⟩,⟨ar,x40.length,au,3,1,bp,0⟩,⟨u,x_v22.length,x,3,1,aj,0⟩,⟨p,x_v23.length,s,31,1,ak,0⟩,⟨bw,1,bz,3,1,bu,0⟩,⟨none,0,0,3,1,[],0⟩,⟨none,0,0,31,1,[],0⟩] w'∧Ae.le av c2∧Ag c2 x40 bp∧Ag c2 ([x38]:List Int) bu)→W (A0 d l m ac ad x_v24 ae) (Bx aa r_ ab a b af ag k f g y x_v21 z u x_v22 x p x_v23 s x30) [24,8,7,6,12,14,20,19,18,13,11,10,9,5,4,3,2,1,0] a' w') ?_ (fun gs=>?_)
     ·
      intro ar au bp bw bz bu
      rintro _ rq ⟨gz,c2,rfl,kz,ig,dy,fg,qv⟩
      replace a4:=a4.mono dy
      refine Dl 15 fun K hK=>?_
      refine DB (.func k f g) [.agg (D5 r_)] _ kz ig rfl rfl (by decide) (by rfl) (by rfl) rfl (a4 _ _ (Ae.le_refl _) ig.has r_.turn _ ((Ab Ac Ac):rep c2 r_.turn _) _ ex47) fun ri dm rr jh dz ih=>?_
      replace ee:=ee.mono (XU dy dz)
      obtain rfl:=jh
      refine⟨.one (.c (.int .i64 x47)),rfl,fun oo (k0:Kn 74 (A0 d l m ac ad x_v24 ae) ((tI 47 x47)::(KW r_ k f g ar x40 au o x_v20 q p x_v23 s u x_v22 x x_v24 a b)) oo)=>hK _ _ ih.plOk ?_⟩
      refine Dl 16 fun K hK=>?_
      refine By 5 rfl rfl 3 1 [.int .i64 x47] k0 ih rfl rfl (by decide) (by kernel_rfl) (by rfl) (by rfl) rfl (by decide) fun bh op p1 (k1:Kn 74 (A0 d l m ac ad x_v24 ae) ((tS 48 bh 1 1)::(tI 47 x47)::(KW r_ k f g ar x40 au o x_v20 q p x_v23 s u x_v22 x x_v24 a b)) op) (f3:Ah ⟨w,h,Aj⟩ dm (A0 d l m ac ad x_v24 ae) (Bx aa r_ ab a b af ag k f g y x_v21 z u x_v22 x p x_v23 s x30) [⟨o,x_v20.length,q,3,1,ai,aq⟩,⟨ar,x40.length,au,3,1,bp,0⟩,⟨u,x_v22.length,x,3,1,aj,0⟩,⟨p,x_v23.length,s,31,1,ak,0⟩,⟨bw,1,bz,3,1,bu,0⟩,⟨bh,1,1,3,1,([.int .i64 x47]:List Value),0⟩,⟨none,0,0,31,1,[],0⟩] p1)=>?_
      have fh:Ag dm ([x47]:List Int) ([.int .i64 x47]:List Value):=⟨_,_,rfl,(Ac:rep dm (x47:Int) _),rfl⟩
      refine hK _ _ f3.plOk ?_
      refine Dl 17 fun K hK=>?_
      obtain⟨gl,m6⟩:=A8 ex49
      refine A3 2 8 1 _ (x49.length) _ ([.int .i64 x47]:List Value) k1 f3 rfl rfl (by decide) rfl (by rfl) (by kernel_rfl) (by rfl) (by rfl) (Ag.len fh) (f3.rowCell (i:=5) rfl) fh.one (by rw [gl]; simp) (by rw [gl]; exact m6) (by decide) fun a2 a3 hn oq jf ke (k2:Kn 74 (A0 d l m ac ad x_v24 ae) ((tS 49 a2 x49.length a3)::(tS 48 bh 1 1)::(tI 47 x47)::(KW r_ k f g ar x40 au o x_v20 q p x_v23 s u x_v22 x x_v24 a b)) oq) (f4:Ah ⟨w,h,Aj⟩ dm (A0 d l m ac ad x_v24 ae) (Bx aa r_ ab a b af ag k f g y x_v21 z u x_v22 x p x_v23 s x30) [⟨o,x_v20.length,q,3,1,ai,aq⟩,⟨ar,x40.length,au,3,1,bp,0⟩,⟨a2,x49.length,a3,3,1,aj++([.int .i64 x47]:List Value),hn⟩,⟨p,x_v23.length,s,31,1,ak,0⟩,⟨bw,1,bz,3,1,bu,0⟩,⟨bh,1,1,3,1,([.int .i64 x47]:List Value),0⟩,⟨none,0,0,31,1,[],0⟩] jf)=>?_
      have fi:Ag dm x49 (aj++([.int .i64 x47]:List Value)):=by rw [gl]; exact Ag.append ee fh
      obtain rfl:hn=0:=Nat.le_zero.1 ke
      refine hK _ _ f4.plOk ?_
      refine Dl 21 fun K hK=>?_
      obtain⟨hu,d0,n6,em⟩:=f4.settle (i:=0) rfl
      replace cp:=cp.mono (XU (XU dy dz) d0)
      replace em:Ah ⟨w,h,Aj⟩ hu (A0 d l m ac ad x_v24 ae) (Bx aa r_ ab a b af ag k f g y x_v21 z u x_v22 x p x_v23 s x30) [⟨o,x_v20.length,q,3,1,ai,(ai:List Value).length⟩,⟨ar,x40.length,au,3,1,bp,0⟩,⟨a2,x49.length,a3,3,1,aj++([.int .i64 x47]:List Value),0⟩,⟨p,x_v23.length,s,31,1,ak,0⟩,⟨bw,1,bz,3,1,bu,0⟩,⟨bh,1,1,3,1,([.int .i64 x47]:List Value),0⟩,⟨none,0,0,31,1,[],0⟩] jf:=em
      have n1:A6 hu o q x_v20:=⟨_,cp,n6,f4.rowCap (i:=0) rfl⟩
      refine wc [.c (.slice o x_v20.length q)] k2 em (C7 et em.has x_v20 n1 ex53) fun rj cg rs ji d1 ii=>?_
      replace cp:=cp.mono d1
      replace fg:=fg.mono (XU (XU dz d0) d1)
      replace fi:=fi.mono (XU d0 d1)
      replace ef:=ef.mono (XU (XU (XU dy dz) d0) d1)
      obtain⟨a5,a7,rfl,n2⟩:=ji
      refine⟨.one (.c (.slice a5 x53.length a7)),rfl,fun os (k3:Kn 74 (A0 d l m ac ad x_v24 ae) ((tS 53 a5 x53.length a7)::(tS 49 a2 x49.length a3)::(tS 48 bh 1 1)::(tI 47 x47)::(KW r_ k f g ar x40 au o x_v20 q p x_v23 s u x_v22 x x_v24 a b)) os)=>hK _ _ ii.plOk ?_⟩
      refine Dl 22 fun K hK=>?_
      refine By 6 rfl rfl 31 1 [.slice a5 x53.length a7] k3 ii rfl rfl (by decide) (by kernel_rfl) (by rfl) (by rfl) rfl (by decide) fun cm ot p2 (k5:Kn 74 (A0 d l m ac ad x_v24 ae) ((tS 54 cm 1 1)::(tS 53 a5 x53.length a7)::(tS 49 a2 x49.length a3)::(tS 48 bh 1 1)::(tI 47 x47)::(KW r_ k f g ar x40 au o x_v20 q p x_v23 s u x_v22 x x_v24 a b)) ot) (f5:Ah ⟨w,h,Aj⟩ cg (A0 d l m ac ad x_v24 ae) (Bx aa r_ ab a b af ag k f g y x_v21 z u x_v22 x p x_v23 s x30) [⟨o,x_v20.length,q,3,1,ai,(ai:List Value).length⟩,⟨ar,x40.length,au,3,1,bp,0⟩,⟨a2,x49.length,a3,3,1,aj++([.int .i64 x47]:List Value),0⟩,⟨p,x_v23.length,s,31,1,ak,0⟩,⟨bw,1,bz,3,1,bu,0⟩,⟨bh,1,1,3,1,([.int .i64 x47]:List Value),0⟩,⟨cm,1,1,31,1,([.slice a5 x53.length a7]:List Value),0⟩] p2)=>?_
      have fj:Ag cg ([x53]:List (List Int)) ([.slice a5 x53.length a7]:List Value):=⟨_,_,rfl,((Ad n2):rep cg (x53:List Int) _),rfl⟩
      refine hK _ _ f5.plOk ?_
      refine Dl 23 fun K hK=>?_
      obtain⟨gm,m7⟩:=A8 ex55
      refine A3 3 24 1 _ (x55.length) _ ([.slice a5 x53.length a7]:List Value) k5 f5 rfl rfl (by decide) rfl (by rfl) (by kernel_rfl) (by rfl) (by rfl) (Ag.len fj) (f5.rowCell (i:=6) rfl) fj.one (by rw [gm]; simp) (by rw [gm]; exact m7) (by decide) fun bm bn ho ou p3 kf (k6:Kn 74 (A0 d l m ac ad x_v24 ae) ((tS 55 bm x55.length bn)::(tS 54 cm 1 1)::(tS 53 a5 x53.length a7)::(tS 49 a2 x49.length a3)::(tS 48 bh 1 1)::(tI 47 x47)::(KW r_ k f g ar x40 au o x_v20 q p x_v23 s u x_v22 x x_v24 a b)) ou) (ij:Ah ⟨w,h,Aj⟩ cg (A0 d l m ac ad x_v24 ae) (Bx aa r_ ab a b af ag k f g y x_v21 z u x_v22 x p x_v23 s x30) [⟨o,x_v20.length,q,3,1,ai,(ai:List Value).length⟩,⟨ar,x40.length,au,3,1,bp,0⟩,⟨a2,x49.length,a3,3,1,aj++([.int .i64 x47]:List Value),0⟩,⟨bm,x55.length,bn,31,1,ak++([.slice a5 x53.length a7]:List Value),ho⟩,⟨bw,1,bz,3,1,bu,0⟩,⟨bh,1,1,3,1,([.int .i64 x47]:List Value),0⟩,⟨cm,1,1,31,1,([.slice a5 x53.length a7]:List Value),0⟩] p3)=>?_
      have jy:Ag cg x55 (ak++([.slice a5 x53.length a7]:List Value)):=by rw [gm]; exact Ag.append ef fj
      obtain rfl:ho=0:=Nat.le_zero.1 kf
      refine hK _ _ ij.plOk ?_
      refine D8 25 rfl (by kernel_rfl) (by decide) (rfl) (by kernel_rfl) fun K hK=>?_
      refine G2 2 0 (.c (.slice ar x40.length au)) [.slice ar x40.length au,.slice u x_v22.length x,.slice p x_v23.length s] k6 ij fun p4 k7 (ik:Ah ⟨w,h,Aj⟩ cg (A0 d l m ac ad x_v24 ae) [⟨BG aa r_ ab a b af ag,some 43⟩,⟨[.func k f g],some 132⟩,⟨[.slice ar x40.length au,.slice u x_v22.length x,.slice p x_v23.length s],some 76⟩,⟨EP x30,none⟩,⟨EP x30,some 96⟩] [⟨o,x_v20.length,q,3,1,ai,(ai:List Value).length⟩,⟨ar,x40.length,au,3,1,bp,0⟩,⟨a2,x49.length,a3,3,1,aj++([.int .i64 x47]:List Value),0⟩,⟨bm,x55.length,bn,31,1,ak++([.slice a5 x53.length a7]:List Value),0⟩,⟨bw,1,bz,3,1,bu,0⟩,⟨bh,1,1,3,1,([.int .i64 x47]:List Value),0⟩,⟨cm,1,1,31,1,([.slice a5 x53.length a7]:List Value),0⟩] p4)=>hK _ _ ?_
      refine Ao [12,14] (A0 d l m ac ad x_v24 ae) [⟨BG aa r_ ab a b af ag,some 43⟩,⟨[.func k f g],some 132⟩,⟨[.slice ar x40.length au,.slice u x_v22.length x,.slice p x_v23.length s],some 76⟩,⟨EP x30,none⟩,⟨EP x30,some 96⟩] ?_
      refine Dr [26] [26,25,23,22,21,17,16,15,24,8,7,6,12,14,20,19,18,13,11,10,9,5,4,3,2,1,0] ((tP 57 2 1)::(tS 55 bm x55.length bn)::(tS 49 a2 x49.length a3)::(CF x_v24 r_ a b o x_v20 q)) k7 ik fun q3 k8=>?_
      refine D8 27 rfl (by kernel_rfl) (by decide) (rfl) (by kernel_rfl) fun K hK=>?_
      refine G2 2 1 (.c (.slice a2 x49.length a3)) [.slice ar x40.length au,.slice a2 x49.length a3,.slice p x_v23.length s] k8 ik fun p5 la (il:Ah ⟨w,h,Aj⟩ cg (A0 d l m ac ad x_v24 ae) [⟨BG aa r_ ab a b af ag,some 43⟩,⟨[.func k f g],some 132⟩,⟨[.slice ar x40.length au,.slice a2 x49.length a3,.slice p x_v23.length s],some 76⟩,⟨EP x30,none⟩,⟨EP x30,some 96⟩] [⟨o,x_v20.length,q,3,1,ai,(ai:List Value).length⟩,⟨ar,x40.length,au,3,1,bp,0⟩,⟨a2,x49.length,a3,3,1,aj++([.int .i64 x47]:List Value),0⟩,⟨bm,x55.length,bn,31,1,ak++([.slice a5 x53.length a7]:List Value),0⟩,⟨bw,1,bz,3,1,bu,0⟩,⟨bh,1,1,3,1,([.int .i64 x47]:List Value),0⟩,⟨cm,1,1,31,1,([.slice a5 x53.length a7]:List Value),0⟩] p5)=>hK _ _ ?_
      refine Ao [12,14] (A0 d l m ac ad x_v24 ae) [⟨BG aa r_ ab a b af ag,some 43⟩,⟨[.func k f g],some 132⟩,⟨[.slice ar x40.length au,.slice a2 x49.length a3,.slice p x_v23.length s],some 76⟩,⟨EP x30,none⟩,⟨EP x30,some 96⟩] ?_
      refine Dr [28] [28,27,26,25,23,22,21,17,16,15,24,8,7,6,12,14,20,19,18,13,11,10,9,5,4,3,2,1,0] ((tP 58 2 2)::(tS 55 bm x55.length bn)::(CF x_v24 r_ a b o x_v20 q)) la il fun ov lb=>?_
      refine D8 29 rfl (by kernel_rfl) (by decide) (rfl) (by kernel_rfl) fun K hK=>?_
      refine G2 2 2 (.c (.slice bm x55.length bn)) [.slice ar x40.length au,.slice a2 x49.length a3,.slice bm x55.length bn] lb il fun p6 lc (im:Ah ⟨w,h,Aj⟩ cg (A0 d l m ac ad x_v24 ae) [⟨BG aa r_ ab a b af ag,some 43⟩,⟨[.func k f g],some 132⟩,⟨[.slice ar x40.length au,.slice a2 x49.length a3,.slice bm x55.length bn],some 76⟩,⟨EP x30,none⟩,⟨EP x30,some 96⟩] [⟨o,x_v20.length,q,3,1,ai,(ai:List Value).length⟩,⟨ar,x40.length,au,3,1,bp,0⟩,⟨a2,x49.length,a3,3,1,aj++([.int .i64 x47]:List Value),0⟩,⟨bm,x55.length,bn,31,1,ak++([.slice a5 x53.length a7]:List Value),0⟩,⟨bw,1,bz,3,1,bu,0⟩,⟨bh,1,1,3,1,([.int .i64 x47]:List Value),0⟩,⟨cm,1,1,31,1,([.slice a5 x53.length a7]:List Value),0⟩] p6)=>hK _ _ ?_
      refine Ao [12,14] (A0 d l m ac ad x_v24 ae) [⟨BG aa r_ ab a b af ag,some 43⟩,⟨[.func k f g],some 132⟩,⟨[.slice ar x40.length au,.slice a2 x49.length a3,.slice bm x55.length bn],some 76⟩,⟨EP x30,none⟩,⟨EP x30,some 96⟩] ?_
      have ld:Kn 74 (A0 d l m ac ad x_v24 ae) (CF x_v24 r_ a b o x_v20 q) ov:=lc.kp
      refine Ay (by kernel_rfl) (Aa (Rk 0 2 [tI 28 (IntKind.i64.wrap (x_v24+1)),tI 27 ((r_.buses.length:Nat):Int),tS 26 a r_.buses.length b,tS 5 o x_v20.length q,tP 4 2 0,tP 3 1 0,tP 2 0 0] ld im fun q4 lf=>?_))
      refine wf ?_
      exact XY et ⟨Nat.lt_succ_self _,XY x_v20 ⟨x40,x49,x55,IntKind.i64.wrap (x_v24+1),o,q,ai,(ai:List Value).length,ar,au,bp,a2,a3,aj++([.int .i64 x47]:List Value),bm,bn,ak++([.slice a5 x53.length a7]:List Value),_,_,rfl,(lf.keep [28,27,26,5,4,3,2] (by rfl)).cut 3 (by kernel_rfl),(im.cutRw 4).cutPl 3 (by kernel_rfl),XU db (XU dy (XU dz (XU d0 d1))),cp,fg,fi,jy,a1⟩⟩
     refine Cl (fun W=>∀ (df:Option Addr),∀ (dk:Nat),∀ (ex:List Value),∀ (e3:Option Addr),∀ (e8:Nat),∀ (ey:List Value),∀ a' w',(∃ (g0:Array Value)(dp:Ae),a' = ⟨g0,[]⟩∧Kn 74 (A0 d l m ac ad x_v24 ae) ((44,.one (.c (.func k f g)))::(tP 56 2 0)::(tS 40 df x40.length dk)::(tS 52 o x_v20.length q)::(tS 51 p x_v23.length s)::(tP 45 0 1)::(tS 42 u x_v22.length x)::(CF x_v24 r_ a b o x_v20 q)) g0∧Ah ⟨w,h,Aj⟩ dp (A0 d l m ac ad x_v24 ae) (Bx aa r_ ab a b af ag k f g y x_v21 z u x_v22 x p x_v23 s x30) [⟨o,x_v20.length,q,3,1,ai,aq⟩,⟨df,x40.length,dk,3,1,ex,0⟩,⟨u,x_v22.length,x,3,1,aj,0⟩,⟨p,x_v23.length,s,31,1,ak,0⟩,⟨e3,1,e8,3,1,ey,0⟩,⟨none,0,0,3,1,[],0⟩,⟨none,0,0,31,1,[],0⟩] w'∧Ae.le av dp∧Ag dp x40 ex∧Ag dp ([x38]:List Int) ey)→W (A0 d l m ac ad x_v24 ae) (Bx aa r_ ab a b af ag k f g y x_v21 z u x_v22 x p x_v23 s x30) [24,8,7,6,12,20,19,18,13,11,10,9,5,4,3,2,1,0] a' w') ?_ (fun i5=>?_)
     ·
      intro df dk ex e3 e8 ey
      rintro _ ru ⟨g0,dp,rfl,lh,f7,nd,jz,j0⟩
      refine Dl 14 fun K hK=>?_
      refine BL lh f7.plOk rfl (by decide) (by kernel_rfl) fun ow (li:Kn 74 (A0 d l m ac ad x_v24 ae) ((tA 46 (D5 r_))::(44,.one (.c (.func k f g)))::(tP 56 2 0)::(tS 40 df x40.length dk)::(tS 52 o x_v20.length q)::(tS 51 p x_v23.length s)::(tP 45 0 1)::(tS 42 u x_v22.length x)::(CF x_v24 r_ a b o x_v20 q)) ow)=>hK _ _ f7.plOk ?_
      refine Bq [24,8,7,6,12,14,20,19,18,13,11,10,9,5,4,3,2,1,0] (by kernel_rfl) (by rfl) (gs df dk ex e3 e8 ey _ _ ?_)
      exact XY _ ⟨_,rfl,li.kp,f7,nd,jz,j0⟩
     refine Cl (fun W=>∀ (dg:Option Addr),∀ (dl:Nat),∀ (ez:List Value),∀ (e4:Option Addr),∀ (e9:Nat),∀ (e0:List Value),∀ a' w',(∃ (g1:Array Value)(dq:Ae),a' = ⟨g1,[]⟩∧Kn 74 (A0 d l m ac ad x_v24 ae) ((tA 46 (D5 r_))::(tP 56 2 0)::(tS 40 dg x40.length dl)::(tS 52 o x_v20.length q)::(tS 51 p x_v23.length s)::(tP 43 1 0)::(tS 42 u x_v22.length x)::(CF x_v24 r_ a b o x_v20 q)) g1∧Ah ⟨w,h,Aj⟩ dq (A0 d l m ac ad x_v24 ae) (Bx aa r_ ab a b af ag k f g y x_v21 z u x_v22 x p x_v23 s x30) [⟨o,x_v20.length,q,3,1,ai,aq⟩,⟨dg,x40.length,dl,3,1,ez,0⟩,⟨u,x_v22.length,x,3,1,aj,0⟩,⟨p,x_v23.length,s,31,1,ak,0⟩,⟨e4,1,e9,3,1,e0,0⟩,⟨none,0,0,3,1,[],0⟩,⟨none,0,0,31,1,[],0⟩] w'∧Ae.le av dq∧Ag dq x40 ez∧Ag dq ([x38]:List Int) e0)→W (A0 d l m ac ad x_v24 ae) (Bx aa r_ ab a b af ag k f g y x_v21 z u x_v22 x p x_v23 s x30) [24,8,7,6,14,20,19,18,13,11,10,9,5,4,3,2,1,0] a' w') ?_ (fun i6=>?_)
     ·
      intro dg dl ez e4 e9 e0
      rintro _ rv ⟨g1,dq,rfl,lk,f8,nf,j1,j2⟩
      refine Dl 12 fun K hK=>?_
      refine BL lk f8.plOk rfl (by decide) (by kernel_rfl) fun ox (ll:Kn 74 (A0 d l m ac ad x_v24 ae) ((44,.one (.c (.func k f g)))::(tA 46 (D5 r_))::(tP 56 2 0)::(tS 40 dg x40.length dl)::(tS 52 o x_v20.length q)::(tS 51 p x_v23.length s)::(tP 43 1 0)::(tS 42 u x_v22.length x)::(CF x_v24 r_ a b o x_v20 q)) ox)=>hK _ _ f8.plOk ?_
      refine Bq [24,8,7,6,12,14,20,19,18,13,11,10,9,5,4,3,2,1,0] (by kernel_rfl) (by rfl) (gs dg dl ez e4 e9 e0 _ _ ?_)
      exact XY _ ⟨_,rfl,ll.kp,f8,nf,j1,j2⟩
     refine Cl (fun W=>∀ (cx:Option Addr),∀ (cz:Nat),∀ (b7:List Value),∀ a' w',(∃ (g2:Array Value)(c3:Ae),a' = ⟨g2,[]⟩∧Kn 74 (A0 d l m ac ad x_v24 ae) ((tA 46 (D5 r_))::(44,.one (.c (.func k f g)))::(tS 39 cx 1 cz)::(tS 52 o x_v20.length q)::(tS 51 p x_v23.length s)::(EM u x_v22 x y x_v21 z x_v24 r_ a b o x_v20 q)) g2∧Ah ⟨w,h,Aj⟩ c3 (A0 d l m ac ad x_v24 ae) (Bx aa r_ ab a b af ag k f g y x_v21 z u x_v22 x p x_v23 s x30) [⟨o,x_v20.length,q,3,1,ai,aq⟩,⟨y,x_v21.length,z,3,1,al,0⟩,⟨u,x_v22.length,x,3,1,aj,0⟩,⟨p,x_v23.length,s,31,1,ak,0⟩,⟨cx,1,cz,3,1,b7,0⟩,⟨none,0,0,3,1,[],0⟩,⟨none,0,0,31,1,[],0⟩] w'∧Ae.le av c3∧Ag c3 ([x38]:List Int) b7)→W (A0 d l m ac ad x_v24 ae) (Bx aa r_ ab a b af ag k f g y x_v21 z u x_v22 x p x_v23 s x30) [7,6,12,14,20,19,18,13,11,10,9,5,4,3,2,1,0] a' w') ?_ (fun gu=>?_)
     ·
      intro cx cz b7
      rintro _ rx ⟨g2,c3,rfl,lm,io,h6,eg⟩
      replace bj:=bj.mono h6
      refine Dl 8 fun K hK=>?_
      obtain⟨gn,m8⟩:=A8 ex40
      refine A3 1 8 1 _ (x40.length) _ b7 lm io rfl rfl (by decide) rfl (by rfl) (by kernel_rfl) (by rfl) (by rfl) (Ag.len eg) (io.rowCell (i:=4) rfl) eg.one (by rw [gn]; simp) (by rw [gn]; exact m8) (by decide) fun d5 ea hp oy p7 kg (ln:Kn 74 (A0 d l m ac ad x_v24 ae) ((tS 40 d5 x40.length ea)::(tA 46 (D5 r_))::(44,.one (.c (.func k f g)))::(tS 39 cx 1 cz)::(tS 52 o x_v20.length q)::(tS 51 p x_v23.length s)::(EM u x_v22 x y x_v21 z x_v24 r_ a b o x_v20 q)) oy) (f9:Ah ⟨w,h,Aj⟩ c3 (A0 d l m ac ad x_v24 ae) (Bx aa r_ ab a b af ag k f g y x_v21 z u x_v22 x p x_v23 s x30) [⟨o,x_v20.length,q,3,1,ai,aq⟩,⟨d5,x40.length,ea,3,1,al++b7,hp⟩,⟨u,x_v22.length,x,3,1,aj,0⟩,⟨p,x_v23.length,s,31,1,ak,0⟩,⟨cx,1,cz,3,1,b7,0⟩,⟨none,0,0,3,1,[],0⟩,⟨none,0,0,31,1,[],0⟩] p7)=>?_
      have j4:Ag c3 x40 (al++b7):=by rw [gn]; exact Ag.append bj eg
      obtain rfl:hp=0:=Nat.le_zero.1 kg
      refine hK _ _ f9.plOk ?_
      refine Dr [24] [24,8,7,6,12,14,20,19,18,13,11,10,9,5,4,3,2,1,0] ((tP 56 2 0)::(tS 40 d5 x40.length ea)::(tA 46 (D5 r_))::(44,.one (.c (.func k f g)))::(tS 52 o x_v20.length q)::(tS 51 p x_v23.length s)::(tS 42 u x_v22.length x)::(CF x_v24 r_ a b o x_v20 q)) ln f9 fun q7 lp=>?_
      refine Bq [24,8,7,6,12,14,20,19,18,13,11,10,9,5,4,3,2,1,0] (by kernel_rfl) (by rfl) (gs d5 ea (al++b7) cx cz b7 _ _ ?_)
      exact XY _ ⟨_,rfl,lp.kp,f9,h6,j4,eg⟩
     refine Cl (fun W=>∀ (b8:Option Addr),∀ (cc:Nat),∀ (b1:List Value),∀ a' w',(∃ (g3:Array Value)(c4:Ae),a' = ⟨g3,[]⟩∧Kn 74 (A0 d l m ac ad x_v24 ae) ((44,.one (.c (.func k f g)))::(tS 39 b8 1 cc)::(tS 52 o x_v20.length q)::(tS 51 p x_v23.length s)::(tP 45 0 1)::(EM u x_v22 x y x_v21 z x_v24 r_ a b o x_v20 q)) g3∧Ah ⟨w,h,Aj⟩ c4 (A0 d l m ac ad x_v24 ae) (Bx aa r_ ab a b af ag k f g y x_v21 z u x_v22 x p x_v23 s x30) [⟨o,x_v20.length,q,3,1,ai,aq⟩,⟨y,x_v21.length,z,3,1,al,0⟩,⟨u,x_v22.length,x,3,1,aj,0⟩,⟨p,x_v23.length,s,31,1,ak,0⟩,⟨b8,1,cc,3,1,b1,0⟩,⟨none,0,0,3,1,[],0⟩,⟨none,0,0,31,1,[],0⟩] w'∧Ae.le av c4∧Ag c4 ([x38]:List Int) b1)→W (A0 d l m ac ad x_v24 ae) (Bx aa r_ ab a b af ag k f g y x_v21 z u x_v22 x p x_v23 s x30) [7,6,12,20,19,18,13,11,10,9,5,4,3,2,1,0] a' w') ?_ (fun i7=>?_)
     ·
      intro b8 cc b1
      rintro _ ry ⟨g3,c4,rfl,hz,d2,fu,dw⟩
      replace bj:=bj.mono fu
      refine HT 8 14 rfl rfl (by kernel_rfl) (by decide) (rfl) (rfl) (fun K hK=>?_) (fun K hK=>?_)
      ·
       obtain⟨go,m9⟩:=A8 ex40
       refine A3 1 8 1 _ (x40.length) _ b1 hz d2 rfl rfl (by decide) rfl (by rfl) (by kernel_rfl) (by rfl) (by rfl) (Ag.len dw) (d2.rowCell (i:=4) rfl) dw.one (by rw [go]; simp) (by rw [go]; exact m9) (by decide) fun d6 eb hq oz p8 kh (lq:Kn 74 (A0 d l m ac ad x_v24 ae) ((tS 40 d6 x40.length eb)::(44,.one (.c (.func k f g)))::(tS 39 b8 1 cc)::(tS 52 o x_v20.length q)::(tS 51 p x_v23.length s)::(tP 45 0 1)::(EM u x_v22 x y x_v21 z x_v24 r_ a b o x_v20 q)) oz) (ga:Ah ⟨w,h,Aj⟩ c4 (A0 d l m ac ad x_v24 ae) (Bx aa r_ ab a b af ag k f g y x_v21 z u x_v22 x p x_v23 s x30) [⟨o,x_v20.length,q,3,1,ai,aq⟩,⟨d6,x40.length,eb,3,1,al++b1,hq⟩,⟨u,x_v22.length,x,3,1,aj,0⟩,⟨p,x_v23.length,s,31,1,ak,0⟩,⟨b8,1,cc,3,1,b1,0⟩,⟨none,0,0,3,1,[],0⟩,⟨none,0,0,31,1,[],0⟩] p8)=>?_
       have j5:Ag c4 x40 (al++b1):=by rw [go]; exact Ag.append bj dw
       obtain rfl:hq=0:=Nat.le_zero.1 kh
       refine hK _ _ ga.plOk ?_
       refine Dr [24] [24,8,7,6,12,20,19,18,13,11,10,9,5,4,3,2,1,0] ((tP 56 2 0)::(tS 40 d6 x40.length eb)::(44,.one (.c (.func k f g)))::(tS 52 o x_v20.length q)::(tS 51 p x_v23.length s)::(tP 45 0 1)::(tS 42 u x_v22.length x)::(CF x_v24 r_ a b o x_v20 q)) lq ga fun q8 lr=>?_
       refine Bq [24,8,7,6,12,20,19,18,13,11,10,9,5,4,3,2,1,0] (by kernel_rfl) (by rfl) (i5 d6 eb (al++b1) b8 cc b1 _ _ ?_)
       exact XY _ ⟨_,rfl,lr.kp,ga,fu,j5,dw⟩
      ·
       refine BL hz d2.plOk rfl (by decide) (by kernel_rfl) fun o0 (ls:Kn 74 (A0 d l m ac ad x_v24 ae) ((tA 46 (D5 r_))::(44,.one (.c (.func k f g)))::(tS 39 b8 1 cc)::(tS 52 o x_v20.length q)::(tS 51 p x_v23.length s)::(tP 45 0 1)::(EM u x_v22 x y x_v21 z x_v24 r_ a b o x_v20 q)) o0)=>hK _ _ d2.plOk ?_
       refine Bq [7,6,12,14,20,19,18,13,11,10,9,5,4,3,2,1,0] (by kernel_rfl) (by rfl) (gu b8 cc b1 _ _ ?_)
       exact XY _ ⟨_,rfl,ls.kp,d2,fu,dw⟩
     refine Cl (fun W=>∀ (b9:Option Addr),∀ (cd:Nat),∀ (b2:List Value),∀ a' w',(∃ (g4:Array Value)(c5:Ae),a' = ⟨g4,[]⟩∧Kn 74 (A0 d l m ac ad x_v24 ae) ((tA 46 (D5 r_))::(tS 39 b9 1 cd)::(tS 52 o x_v20.length q)::(tS 51 p x_v23.length s)::(tP 43 1 0)::(EM u x_v22 x y x_v21 z x_v24 r_ a b o x_v20 q)) g4∧Ah ⟨w,h,Aj⟩ c5 (A0 d l m ac ad x_v24 ae) (Bx aa r_ ab a b af ag k f g y x_v21 z u x_v22 x p x_v23 s x30) [⟨o,x_v20.length,q,3,1,ai,aq⟩,⟨y,x_v21.length,z,3,1,al,0⟩,⟨u,x_v22.length,x,3,1,aj,0⟩,⟨p,x_v23.length,s,31,1,ak,0⟩,⟨b9,1,cd,3,1,b2,0⟩,⟨none,0,0,3,1,[],0⟩,⟨none,0,0,31,1,[],0⟩] w'∧Ae.le av c5∧Ag c5 ([x38]:List Int) b2)→W (A0 d l m ac ad x_v24 ae) (Bx aa r_ ab a b af ag k f g y x_v21 z u x_v22 x p x_v23 s x30) [7,6,14,20,19,18,13,11,10,9,5,4,3,2,1,0] a' w') ?_ (fun i8=>?_)
     ·
      intro b9 cd b2
      rintro _ rz ⟨g4,c5,rfl,h0,d3,fv,dx⟩
      replace bj:=bj.mono fv
      refine HT 8 12 rfl rfl (by kernel_rfl) (by decide) (rfl) (rfl) (fun K hK=>?_) (fun K hK=>?_)
      ·
       obtain⟨gp,na⟩:=A8 ex40
       refine A3 1 8 1 _ (x40.length) _ b2 h0 d3 rfl rfl (by decide) rfl (by rfl) (by kernel_rfl) (by rfl) (by rfl) (Ag.len dx) (d3.rowCell (i:=4) rfl) dx.one (by rw [gp]; simp) (by rw [gp]; exact na) (by decide) fun d7 ec hr o1 p9 ki (lu:Kn 74 (A0 d l m ac ad x_v24 ae) ((tS 40 d7 x40.length ec)::(tA 46 (D5 r_))::(tS 39 b9 1 cd)::(tS 52 o x_v20.length q)::(tS 51 p x_v23.length s)::(tP 43 1 0)::(EM u x_v22 x y x_v21 z x_v24 r_ a b o x_v20 q)) o1) (gb:Ah ⟨w,h,Aj⟩ c5 (A0 d l m ac ad x_v24 ae) (Bx aa r_ ab a b af ag k f g y x_v21 z u x_v22 x p x_v23 s x30) [⟨o,x_v20.length,q,3,1,ai,aq⟩,⟨d7,x40.length,ec,3,1,al++b2,hr⟩,⟨u,x_v22.length,x,3,1,aj,0⟩,⟨p,x_v23.length,s,31,1,ak,0⟩,⟨b9,1,cd,3,1,b2,0⟩,⟨none,0,0,3,1,[],0⟩,⟨none,0,0,31,1,[],0⟩] p9)=>?_
       have j6:Ag c5 x40 (al++b2):=by rw [gp]; exact Ag.append bj dx
       obtain rfl:hr=0:=Nat.le_zero.1 ki
       refine hK _ _ gb.plOk ?_
       refine Dr [24] [24,8,7,6,14,20,19,18,13,11,10,9,5,4,3,2,1,0] ((tP 56 2 0)::(tS 40 d7 x40.length ec)::(tA 46 (D5 r_))::(tS 52 o x_v20.length q)::(tS 51 p x_v23.length s)::(tP 43 1 0)::(tS 42 u x_v22.length x)::(CF x_v24 r_ a b o x_v20 q)) lu gb fun q9 lv=>?_
       refine Bq [24,8,7,6,14,20,19,18,13,11,10,9,5,4,3,2,1,0] (by kernel_rfl) (by rfl) (i6 d7 ec (al++b2) b9 cd b2 _ _ ?_)
       exact XY _ ⟨_,rfl,lv.kp,gb,fv,j6,dx⟩
      ·
       refine BL h0 d3.plOk rfl (by decide) (by kernel_rfl) fun o2 (lw:Kn 74 (A0 d l m ac ad x_v24 ae) ((44,.one (.c (.func k f g)))::(tA 46 (D5 r_))::(tS 39 b9 1 cd)::(tS 52 o x_v20.length q)::(tS 51 p x_v23.length s)::(tP 43 1 0)::(EM u x_v22 x y x_v21 z x_v24 r_ a b o x_v20 q)) o2)=>hK _ _ d3.plOk ?_
       refine Bq [7,6,12,14,20,19,18,13,11,10,9,5,4,3,2,1,0] (by kernel_rfl) (by rfl) (gu b9 cd b2 _ _ ?_)
       exact XY _ ⟨_,rfl,lw.kp,d3,fv,dx⟩
     refine Cl (fun W=>∀ a' w',(∃ (g5:Array Value)(c6:Ae),a' = ⟨g5,[]⟩∧Kn 74 (A0 d l m ac ad x_v24 ae) ((tA 46 (D5 r_))::(44,.one (.c (.func k f g)))::(tI 38 x38)::(tS 52 o x_v20.length q)::(tS 51 p x_v23.length s)::(EM u x_v22 x y x_v21 z x_v24 r_ a b o x_v20 q)) g5∧Ah ⟨w,h,Aj⟩ c6 (A0 d l m ac ad x_v24 ae) (Bx aa r_ ab a b af ag k f g y x_v21 z u x_v22 x p x_v23 s x30) (O1 o x_v20 q ai aq y x_v21 z al u x_v22 x aj p x_v23 s ak) w'∧Ae.le av c6)→W (A0 d l m ac ad x_v24 ae) (Bx aa r_ ab a b af ag k f g y x_v21 z u x_v22 x p x_v23 s x30) [6,12,14,20,19,18,13,11,10,9,5,4,3,2,1,0] a' w') ?_ (fun gv=>?_)
     ·
      rintro _ r0 ⟨g5,c6,rfl,lx,nu,ng⟩
      refine Dl 7 fun K hK=>?_
      refine By 4 rfl rfl 3 1 [.int .i64 x38] lx nu rfl rfl (by decide) (by kernel_rfl) (by rfl) (by rfl) rfl (by decide) fun e5 o3 qa (ly:Kn 74 (A0 d l m ac ad x_v24 ae) ((tS 39 e5 1 1)::(tA 46 (D5 r_))::(44,.one (.c (.func k f g)))::(tI 38 x38)::(tS 52 o x_v20.length q)::(tS 51 p x_v23.length s)::(EM u x_v22 x y x_v21 z x_v24 r_ a b o x_v20 q)) o3) (ip:Ah ⟨w,h,Aj⟩ c6 (A0 d l m ac ad x_v24 ae) (Bx aa r_ ab a b af ag k f g y x_v21 z u x_v22 x p x_v23 s x30) [⟨o,x_v20.length,q,3,1,ai,aq⟩,⟨y,x_v21.length,z,3,1,al,0⟩,⟨u,x_v22.length,x,3,1,aj,0⟩,⟨p,x_v23.length,s,31,1,ak,0⟩,⟨e5,1,1,3,1,([.int .i64 x38]:List Value),0⟩,⟨none,0,0,3,1,[],0⟩,⟨none,0,0,31,1,[],0⟩] qa)=>?_
      have j7:Ag c6 ([x38]:List Int) ([.int .i64 x38]:List Value):=⟨_,_,rfl,(Ac:rep c6 (x38:Int) _),rfl⟩
      refine hK _ _ ip.plOk ?_
      refine Bq [7,6,12,14,20,19,18,13,11,10,9,5,4,3,2,1,0] (by kernel_rfl) (by rfl) (gu e5 1 ([.int .i64 x38]:List Value) _ _ ?_)
      exact XY _ ⟨_,rfl,ly.kp,ip,ng,j7⟩
     refine Cl (fun W=>∀ a' w',(∃ (g6:Array Value)(c7:Ae),a' = ⟨g6,[]⟩∧Kn 74 (A0 d l m ac ad x_v24 ae) ((44,.one (.c (.func k f g)))::(tI 38 x38)::(tS 52 o x_v20.length q)::(tS 51 p x_v23.length s)::(tP 45 0 1)::(EM u x_v22 x y x_v21 z x_v24 r_ a b o x_v20 q)) g6∧Ah ⟨w,h,Aj⟩ c7 (A0 d l m ac ad x_v24 ae) (Bx aa r_ ab a b af ag k f g y x_v21 z u x_v22 x p x_v23 s x30) (O1 o x_v20 q ai aq y x_v21 z al u x_v22 x aj p x_v23 s ak) w'∧Ae.le av c7)→W (A0 d l m ac ad x_v24 ae) (Bx aa r_ ab a b af ag k f g y x_v21 z u x_v22 x p x_v23 s x30) [6,12,20,19,18,13,11,10,9,5,4,3,2,1,0] a' w') ?_ (fun i9=>?_)
     ·
      rintro _ r1 ⟨g6,c7,rfl,h1,en,h7⟩
      refine HT 7 14 rfl rfl (by kernel_rfl) (by decide) (rfl) (rfl) (fun K hK=>?_) (fun K hK=>?_)
      ·
       refine By 4 rfl rfl 3 1 [.int .i64 x38] h1 en rfl rfl (by decide) (by kernel_rfl) (by rfl) (by rfl) rfl (by decide) fun e6 o4 qb (lz:Kn 74 (A0 d l m ac ad x_v24 ae) ((tS 39 e6 1 1)::(44,.one (.c (.func k f g)))::(tI 38 x38)::(tS 52 o x_v20.length q)::(tS 51 p x_v23.length s)::(tP 45 0 1)::(EM u x_v22 x y x_v21 z x_v24 r_ a b o x_v20 q)) o4) (iq:Ah ⟨w,h,Aj⟩ c7 (A0 d l m ac ad x_v24 ae) (Bx aa r_ ab a b af ag k f g y x_v21 z u x_v22 x p x_v23 s x30) [⟨o,x_v20.length,q,3,1,ai,aq⟩,⟨y,x_v21.length,z,3,1,al,0⟩,⟨u,x_v22.length,x,3,1,aj,0⟩,⟨p,x_v23.length,s,31,1,ak,0⟩,⟨e6,1,1,3,1,([.int .i64 x38]:List Value),0⟩,⟨none,0,0,3,1,[],0⟩,⟨none,0,0,31,1,[],0⟩] qb)=>?_
       have j8:Ag c7 ([x38]:List Int) ([.int .i64 x38]:List Value):=⟨_,_,rfl,(Ac:rep c7 (x38:Int) _),rfl⟩
       refine hK _ _ iq.plOk ?_
       refine Bq [7,6,12,20,19,18,13,11,10,9,5,4,3,2,1,0] (by kernel_rfl) (by rfl) (i7 e6 1 ([.int .i64 x38]:List Value) _ _ ?_)
       exact XY _ ⟨_,rfl,lz.kp,iq,h7,j8⟩
      ·
       refine BL h1 en.plOk rfl (by decide) (by kernel_rfl) fun o5 (l0:Kn 74 (A0 d l m ac ad x_v24 ae) ((tA 46 (D5 r_))::(44,.one (.c (.func k f g)))::(tI 38 x38)::(tS 52 o x_v20.length q)::(tS 51 p x_v23.length s)::(tP 45 0 1)::(EM u x_v22 x y x_v21 z x_v24 r_ a b o x_v20 q)) o5)=>hK _ _ en.plOk ?_
       refine Bq [6,12,14,20,19,18,13,11,10,9,5,4,3,2,1,0] (by kernel_rfl) (by rfl) (gv _ _ ?_)
       exact XY _ ⟨_,rfl,l0.kp,en,h7⟩
     refine Cl (fun W=>∀ a' w',(∃ (g7:Array Value)(c8:Ae),a' = ⟨g7,[]⟩∧Kn 74 (A0 d l m ac ad x_v24 ae) ((tA 46 (D5 r_))::(tI 38 x38)::(tS 52 o x_v20.length q)::(tS 51 p x_v23.length s)::(tP 43 1 0)::(EM u x_v22 x y x_v21 z x_v24 r_ a b o x_v20 q)) g7∧Ah ⟨w,h,Aj⟩ c8 (A0 d l m ac ad x_v24 ae) (Bx aa r_ ab a b af ag k f g y x_v21 z u x_v22 x p x_v23 s x30) (O1 o x_v20 q ai aq y x_v21 z al u x_v22 x aj p x_v23 s ak) w'∧Ae.le av c8)→W (A0 d l m ac ad x_v24 ae) (Bx aa r_ ab a b af ag k f g y x_v21 z u x_v22 x p x_v23 s x30) [6,14,20,19,18,13,11,10,9,5,4,3,2,1,0] a' w') ?_ (fun ja=>?_)
     ·
      rintro _ r2 ⟨g7,c8,rfl,h2,eo,h8⟩
      refine HT 7 12 rfl rfl (by kernel_rfl) (by decide) (rfl) (rfl) (fun K hK=>?_) (fun K hK=>?_)
      ·
       refine By 4 rfl rfl 3 1 [.int .i64 x38] h2 eo rfl rfl (by decide) (by kernel_rfl) (by rfl) (by rfl) rfl (by decide) fun e7 o6 qc (l1:Kn 74 (A0 d l m ac ad x_v24 ae) ((tS 39 e7 1 1)::(tA 46 (D5 r_))::(tI 38 x38)::(tS 52 o x_v20.length q)::(tS 51 p x_v23.length s)::(tP 43 1 0)::(EM u x_v22 x y x_v21 z x_v24 r_ a b o x_v20 q)) o6) (ir:Ah ⟨w,h,Aj⟩ c8 (A0 d l m ac ad x_v24 ae) (Bx aa r_ ab a b af ag k f g y x_v21 z u x_v22 x p x_v23 s x30) [⟨o,x_v20.length,q,3,1,ai,aq⟩,⟨y,x_v21.length,z,3,1,al,0⟩,⟨u,x_v22.length,x,3,1,aj,0⟩,⟨p,x_v23.length,s,31,1,ak,0⟩,⟨e7,1,1,3,1,([.int .i64 x38]:List Value),0⟩,⟨none,0,0,3,1,[],0⟩,⟨none,0,0,31,1,[],0⟩] qc)=>?_
       have ka:Ag c8 ([x38]:List Int) ([.int .i64 x38]:List Value):=⟨_,_,rfl,(Ac:rep c8 (x38:Int) _),rfl⟩
       refine hK _ _ ir.plOk ?_
       refine Bq [7,6,14,20,19,18,13,11,10,9,5,4,3,2,1,0] (by kernel_rfl) (by rfl) (i8 e7 1 ([.int .i64 x38]:List Value) _ _ ?_)
       exact XY _ ⟨_,rfl,l1.kp,ir,h8,ka⟩
      ·
       refine BL h2 eo.plOk rfl (by decide) (by kernel_rfl) fun o7 (l2:Kn 74 (A0 d l m ac ad x_v24 ae) ((44,.one (.c (.func k f g)))::(tA 46 (D5 r_))::(tI 38 x38)::(tS 52 o x_v20.length q)::(tS 51 p x_v23.length s)::(tP 43 1 0)::(EM u x_v22 x y x_v21 z x_v24 r_ a b o x_v20 q)) o7)=>hK _ _ eo.plOk ?_
       refine Bq [6,12,14,20,19,18,13,11,10,9,5,4,3,2,1,0] (by kernel_rfl) (by rfl) (gv _ _ ?_)
       exact XY _ ⟨_,rfl,l2.kp,eo,h8⟩
     refine Cl (fun W=>∀ a' w',(∃ (g8:Array Value)(ed:Ae),a' = ⟨g8,[]⟩∧Kn 74 (A0 d l m ac ad x_v24 ae) ((tA 46 (D5 r_))::(44,.one (.c (.func k f g)))::(tS 52 o x_v20.length q)::(tS 51 p x_v23.length s)::(tS 42 u x_v22.length x)::(tA 37 (Oz x30))::(35,.one (.c (.func k f g)))::(tS 33 y x_v21.length z)::(CF x_v24 r_ a b o x_v20 q)) g8∧Ah ⟨w,h,Aj⟩ ed (A0 d l m ac ad x_v24 ae) (Bx aa r_ ab a b af ag k f g y x_v21 z u x_v22 x p x_v23 s x30) (O1 o x_v20 q ai aq y x_v21 z al u x_v22 x aj p x_v23 s ak) w'∧Ae.le av ed)→W (A0 d l m ac ad x_v24 ae) (Bx aa r_ ab a b af ag k f g y x_v21 z u x_v22 x p x_v23 s x30) [12,14,20,19,18,13,11,10,9,5,4,3,2,1,0] a' w') ?_ (fun jb=>?_)
     ·
      rintro _ r3 ⟨g8,ed,rfl,l3,iu,h9⟩
      replace a4:=a4.mono h9
      refine Dl 6 fun K hK=>?_
      refine DB (.func k f g) [.agg (Oz x30)] _ l3 iu rfl rfl (by decide) (by rfl) (by rfl) rfl (a4 _ _ (Ae.le_refl _) iu.has x30.tm _ ((Ab Ac Ac):rep ed x30.tm _) _ ex38) fun rk qp r4 jj nh iv=>?_
      obtain rfl:=jj
      refine⟨.one (.c (.int .i64 x38)),rfl,fun o8 (l4:Kn 74 (A0 d l m ac ad x_v24 ae) ((tI 38 x38)::(tA 46 (D5 r_))::(44,.one (.c (.func k f g)))::(tS 52 o x_v20.length q)::(tS 51 p x_v23.length s)::(tS 42 u x_v22.length x)::(tA 37 (Oz x30))::(35,.one (.c (.func k f g)))::(tS 33 y x_v21.length z)::(CF x_v24 r_ a b o x_v20 q)) o8)=>hK _ _ iv.plOk ?_⟩
      refine Bq [6,12,14,20,19,18,13,11,10,9,5,4,3,2,1,0] (by kernel_rfl) (by rfl) (gv _ _ ?_)
      exact XY _ ⟨_,rfl,l4.kp,iv,XU h9 nh⟩
     refine Qa 6 12 14 rfl rfl rfl (by kernel_rfl) (by decide) (rfl) (rfl) (rfl) (fun K hK=>?_) (fun K hK=>?_) (fun K hK=>?_)
     ·
      refine DB (.func k f g) [.agg (Oz x30)] _ fo a9 rfl rfl (by decide) (by rfl) (by rfl) rfl (a4 _ _ (Ae.le_refl _) a9.has x30.tm _ ((Ab Ac Ac):rep av x30.tm _) _ ex38) fun rl dr r5 jk ct cj=>?_
      replace bj:=bj.mono ct
      obtain rfl:=jk
      refine⟨.one (.c (.int .i64 x38)),rfl,fun o9 (fp:Kn 74 (A0 d l m ac ad x_v24 ae) ((tI 38 x38)::(FB o x_v20 q p x_v23 s u x_v22 x x30 k f g y x_v21 z x_v24 r_ a b)) o9)=>hK _ _ cj.plOk ?_⟩
      refine Qa 7 12 14 rfl rfl rfl (by kernel_rfl) (by decide) (rfl) (rfl) (rfl) (fun K hK=>?_) (fun K hK=>?_) (fun K hK=>?_)
      ·
       refine By 4 rfl rfl 3 1 [.int .i64 x38] fp cj rfl rfl (by decide) (by kernel_rfl) (by rfl) (by rfl) rfl (by decide) fun bx pa qd (fq:Kn 74 (A0 d l m ac ad x_v24 ae) ((tS 39 bx 1 1)::(tI 38 x38)::(FB o x_v20 q p x_v23 s u x_v22 x x30 k f g y x_v21 z x_v24 r_ a b)) pa) (b5:Ah ⟨w,h,Aj⟩ dr (A0 d l m ac ad x_v24 ae) (Bx aa r_ ab a b af ag k f g y x_v21 z u x_v22 x p x_v23 s x30) [⟨o,x_v20.length,q,3,1,ai,aq⟩,⟨y,x_v21.length,z,3,1,al,0⟩,⟨u,x_v22.length,x,3,1,aj,0⟩,⟨p,x_v23.length,s,31,1,ak,0⟩,⟨bx,1,1,3,1,([.int .i64 x38]:List Value),0⟩,⟨none,0,0,3,1,[],0⟩,⟨none,0,0,31,1,[],0⟩] qd)=>?_
       have cq:Ag dr ([x38]:List Int) ([.int .i64 x38]:List Value):=⟨_,_,rfl,(Ac:rep dr (x38:Int) _),rfl⟩
       refine hK _ _ b5.plOk ?_
       refine Qa 8 12 14 rfl rfl rfl (by kernel_rfl) (by decide) (rfl) (rfl) (rfl) (fun K hK=>?_) (fun K hK=>?_) (fun K hK=>?_)
       ·
        obtain⟨gq,nb⟩:=A8 ex40
        refine A3 1 8 1 _ (x40.length) _ ([.int .i64 x38]:List Value) fq b5 rfl rfl (by decide) rfl (by rfl) (by kernel_rfl) (by rfl) (by rfl) (Ag.len cq) (b5.rowCell (i:=4) rfl) cq.one (by rw [gq]; simp) (by rw [gq]; exact nb) (by decide) fun cn co hs pb qe kj (l5:Kn 74 (A0 d l m ac ad x_v24 ae) ((tS 40 cn x40.length co)::(tS 39 bx 1 1)::(tI 38 x38)::(FB o x_v20 q p x_v23 s u x_v22 x x30 k f g y x_v21 z x_v24 r_ a b)) pb) (ck:Ah ⟨w,h,Aj⟩ dr (A0 d l m ac ad x_v24 ae) (Bx aa r_ ab a b af ag k f g y x_v21 z u x_v22 x p x_v23 s x30) [⟨o,x_v20.length,q,3,1,ai,aq⟩,⟨cn,x40.length,co,3,1,al++([.int .i64 x38]:List Value),hs⟩,⟨u,x_v22.length,x,3,1,aj,0⟩,⟨p,x_v23.length,s,31,1,ak,0⟩,⟨bx,1,1,3,1,([.int .i64 x38]:List Value),0⟩,⟨none,0,0,3,1,[],0⟩,⟨none,0,0,31,1,[],0⟩] qe)=>?_
        have hy:Ag dr x40 (al++([.int .i64 x38]:List Value)):=by rw [gq]; exact Ag.append bj cq
        obtain rfl:hs=0:=Nat.le_zero.1 kj
        refine hK _ _ ck.plOk ?_
        refine Dr [24] [24,8,7,6,20,19,18,13,11,10,9,5,4,3,2,1,0] ((tP 56 2 0)::(tS 40 cn x40.length co)::(tS 52 o x_v20.length q)::(tS 51 p x_v23.length s)::(tP 45 0 1)::(tP 43 1 0)::(tS 42 u x_v22.length x)::(CF x_v24 r_ a b o x_v20 q)) l5 ck fun ra h3=>?_
        refine HT 12 14 rfl rfl (by kernel_rfl) (by decide) (rfl) (rfl) (fun K hK=>?_) (fun K hK=>?_)
        ·
         refine BL h3 ck.plOk rfl (by decide) (by kernel_rfl) fun pc (l6:Kn 74 (A0 d l m ac ad x_v24 ae) ((44,.one (.c (.func k f g)))::(tP 56 2 0)::(tS 40 cn x40.length co)::(tS 52 o x_v20.length q)::(tS 51 p x_v23.length s)::(tP 45 0 1)::(tP 43 1 0)::(tS 42 u x_v22.length x)::(CF x_v24 r_ a b o x_v20 q)) pc)=>hK _ _ ck.plOk ?_
         refine Bq [24,8,7,6,12,20,19,18,13,11,10,9,5,4,3,2,1,0] (by kernel_rfl) (by rfl) (i5 cn co (al++([.int .i64 x38]:List Value)) bx 1 ([.int .i64 x38]:List Value) _ _ ?_)
         exact XY _ ⟨_,rfl,l6.kp,ck,ct,hy,cq⟩
        ·
         refine BL h3 ck.plOk rfl (by decide) (by kernel_rfl) fun pd (l7:Kn 74 (A0 d l m ac ad x_v24 ae) ((tA 46 (D5 r_))::(tP 56 2 0)::(tS 40 cn x40.length co)::(tS 52 o x_v20.length q)::(tS 51 p x_v23.length s)::(tP 45 0 1)::(tP 43 1 0)::(tS 42 u x_v22.length x)::(CF x_v24 r_ a b o x_v20 q)) pd)=>hK _ _ ck.plOk ?_
         refine Bq [24,8,7,6,14,20,19,18,13,11,10,9,5,4,3,2,1,0] (by kernel_rfl) (by rfl) (i6 cn co (al++([.int .i64 x38]:List Value)) bx 1 ([.int .i64 x38]:List Value) _ _ ?_)
         exact XY _ ⟨_,rfl,l7.kp,ck,ct,hy,cq⟩
       ·
        refine BL fq b5.plOk rfl (by decide) (by kernel_rfl) fun pe (l8:Kn 74 (A0 d l m ac ad x_v24 ae) ((44,.one (.c (.func k f g)))::(tS 39 bx 1 1)::(tI 38 x38)::(FB o x_v20 q p x_v23 s u x_v22 x x30 k f g y x_v21 z x_v24 r_ a b)) pe)=>hK _ _ b5.plOk ?_
        refine Bq [7,6,12,20,19,18,13,11,10,9,5,4,3,2,1,0] (by kernel_rfl) (by rfl) (i7 bx 1 ([.int .i64 x38]:List Value) _ _ ?_)
        exact XY _ ⟨_,rfl,l8.kp,b5,ct,cq⟩
       ·
        refine BL fq b5.plOk rfl (by decide) (by kernel_rfl) fun pf (l9:Kn 74 (A0 d l m ac ad x_v24 ae) ((tA 46 (D5 r_))::(tS 39 bx 1 1)::(tI 38 x38)::(FB o x_v20 q p x_v23 s u x_v22 x x30 k f g y x_v21 z x_v24 r_ a b)) pf)=>hK _ _ b5.plOk ?_
        refine Bq [7,6,14,20,19,18,13,11,10,9,5,4,3,2,1,0] (by kernel_rfl) (by rfl) (i8 bx 1 ([.int .i64 x38]:List Value) _ _ ?_)
        exact XY _ ⟨_,rfl,l9.kp,b5,ct,cq⟩
      ·
       refine BL fp cj.plOk rfl (by decide) (by kernel_rfl) fun pg (ma:Kn 74 (A0 d l m ac ad x_v24 ae) ((44,.one (.c (.func k f g)))::(tI 38 x38)::(FB o x_v20 q p x_v23 s u x_v22 x x30 k f g y x_v21 z x_v24 r_ a b)) pg)=>hK _ _ cj.plOk ?_
       refine Bq [6,12,20,19,18,13,11,10,9,5,4,3,2,1,0] (by kernel_rfl) (by rfl) (i9 _ _ ?_)
       exact XY _ ⟨_,rfl,ma.kp,cj,ct⟩
      ·
       refine BL fp cj.plOk rfl (by decide) (by kernel_rfl) fun ph (mb:Kn 74 (A0 d l m ac ad x_v24 ae) ((tA 46 (D5 r_))::(tI 38 x38)::(FB o x_v20 q p x_v23 s u x_v22 x x30 k f g y x_v21 z x_v24 r_ a b)) ph)=>hK _ _ cj.plOk ?_
       refine Bq [6,14,20,19,18,13,11,10,9,5,4,3,2,1,0] (by kernel_rfl) (by rfl) (ja _ _ ?_)
       exact XY _ ⟨_,rfl,mb.kp,cj,ct⟩
     ·
      refine BL fo a9.plOk rfl (by decide) (by kernel_rfl) fun pi (h4:Kn 74 (A0 d l m ac ad x_v24 ae) ((44,.one (.c (.func k f g)))::(FB o x_v20 q p x_v23 s u x_v22 x x30 k f g y x_v21 z x_v24 r_ a b)) pi)=>hK _ _ a9.plOk ?_
      refine HT 6 14 rfl rfl (by kernel_rfl) (by decide) (rfl) (rfl) (fun K hK=>?_) (fun K hK=>?_)
      ·
       refine DB (.func k f g) [.agg (Oz x30)] _ h4 a9 rfl rfl (by decide) (by rfl) (by rfl) rfl (a4 _ _ (Ae.le_refl _) a9.has x30.tm _ ((Ab Ac Ac):rep av x30.tm _) _ ex38) fun rm qq r6 jl ni iw=>?_
       obtain rfl:=jl
       refine⟨.one (.c (.int .i64 x38)),rfl,fun pj (mc:Kn 74 (A0 d l m ac ad x_v24 ae) ((tI 38 x38)::(44,.one (.c (.func k f g)))::(FB o x_v20 q p x_v23 s u x_v22 x x30 k f g y x_v21 z x_v24 r_ a b)) pj)=>hK _ _ iw.plOk ?_⟩
       refine Bq [6,12,20,19,18,13,11,10,9,5,4,3,2,1,0] (by kernel_rfl) (by rfl) (i9 _ _ ?_)
       exact XY _ ⟨_,rfl,mc.kp,iw,ni⟩
      ·
       refine BL h4 a9.plOk rfl (by decide) (by kernel_rfl) fun pk (md:Kn 74 (A0 d l m ac ad x_v24 ae) ((tA 46 (D5 r_))::(44,.one (.c (.func k f g)))::(FB o x_v20 q p x_v23 s u x_v22 x x30 k f g y x_v21 z x_v24 r_ a b)) pk)=>hK _ _ a9.plOk ?_
       refine Bq [12,14,20,19,18,13,11,10,9,5,4,3,2,1,0] (by kernel_rfl) (by rfl) (jb _ _ ?_)
       exact XY _ ⟨_,rfl,md.kp,a9,Ae.le_refl _⟩
     ·
      refine BL fo a9.plOk rfl (by decide) (by kernel_rfl) fun pl (h5:Kn 74 (A0 d l m ac ad x_v24 ae) ((tA 46 (D5 r_))::(FB o x_v20 q p x_v23 s u x_v22 x x30 k f g y x_v21 z x_v24 r_ a b)) pl)=>hK _ _ a9.plOk ?_
      refine HT 6 12 rfl rfl (by kernel_rfl) (by decide) (rfl) (rfl) (fun K hK=>?_) (fun K hK=>?_)
      ·
       refine DB (.func k f g) [.agg (Oz x30)] _ h5 a9 rfl rfl (by decide) (by rfl) (by rfl) rfl (a4 _ _ (Ae.le_refl _) a9.has x30.tm _ ((Ab Ac Ac):rep av x30.tm _) _ ex38) fun rn qr r7 jm nj ix=>?_
       obtain rfl:=jm
       refine⟨.one (.c (.int .i64 x38)),rfl,fun pm (me:Kn 74 (A0 d l m ac ad x_v24 ae) ((tI 38 x38)::(tA 46 (D5 r_))::(FB o x_v20 q p x_v23 s u x_v22 x x30 k f g y x_v21 z x_v24 r_ a b)) pm)=>hK _ _ ix.plOk ?_⟩
       refine Bq [6,14,20,19,18,13,11,10,9,5,4,3,2,1,0] (by kernel_rfl) (by rfl) (ja _ _ ?_)
       exact XY _ ⟨_,rfl,me.kp,ix,nj⟩
      ·
       refine BL h5 a9.plOk rfl (by decide) (by kernel_rfl) fun pn (mf:Kn 74 (A0 d l m ac ad x_v24 ae) ((44,.one (.c (.func k f g)))::(tA 46 (D5 r_))::(FB o x_v20 q p x_v23 s u x_v22 x x30 k f g y x_v21 z x_v24 r_ a b)) pn)=>hK _ _ a9.plOk ?_
       refine Bq [12,14,20,19,18,13,11,10,9,5,4,3,2,1,0] (by kernel_rfl) (by rfl) (jb _ _ ?_)
       exact XY _ ⟨_,rfl,mf.kp,a9,Ae.le_refl _⟩
    ·
     rw [fd,XV] at a1
     refine wp_exit ?_
     obtain rfl:=XZ a1
     exact XY o ⟨q,ai,aq,y,z,al,u,x,aj,p,s,ak,_,_,rfl,fn.kp,f2,db,cp,bj,ee,ef⟩
  ·
   rintro _ r8 ⟨de,dj,ev,fa,am,ao,ba,an,ap,bb,d4,d9,ew,gx,b4,rfl,mg,iy,ek,jv,du,dv,jw⟩
   replace bs:=bs.mono ek
   replace bt:=bt.mono ek
   replace b0:=b0.mono ek
   replace a4:=a4.mono ek
   refine XT (XT (Aa (Rk 0 4 [tI 63 0,tI 62 ((r_.spares.length:Nat):Int),tS 5 de ah.1.length dj,tP 4 2 0] mg iy fun rb mi=>?_)))
   refine wf ?_
   obtain⟨aw,hg,H⟩:=Aq H
   refine Av (fun a' w'=>∃ (cy:Option Addr)(c0:Nat)(cw:List Value)(c1:Nat)(a6:Option Addr)(a8:Nat)(cl:List Value)(hb:Array Value)(c9:Ae),a' = ⟨hb,[]⟩∧Kn 74 [(d,0),(l,0),(m,0)] [tP 4 2 0] hb∧Ah ⟨w,h,Aj⟩ c9 [(d,0),(l,0),(m,0)] [⟨BG aa r_ ab a b af ag,some 43⟩,⟨[.func k f g],some 132⟩,⟨LR am ah ao an ap a6 aw a8,some 76⟩] [⟨cy,aw.1.length,c0,3,1,cw,c1⟩,⟨am,ah.2.1.length,ao,3,1,ba,0⟩,⟨an,ah.2.2.1.length,ap,3,1,bb,0⟩,⟨a6,aw.2.length,a8,31,1,cl,0⟩] w'∧Ae.le b4 c9∧Ag c9 aw.1 cw∧Ag c9 aw.2 cl) ?_ ?_
   ·
    refine wp_block ?_
    refine Ar (fun oi a' w'=>∃ (x_v30:List Int)(x_v31:List (List Int))(x_v32:Int)(ax:Option Addr)(ay:Nat)(bg:List Value)(fb:Nat)(bc:Option Addr)(be:Nat)(b3:List Value)(hc:Array Value)(ds:Ae),a' = ⟨hc,[]⟩∧Kn 74 [(d,0),(l,0),(m,0)] (JM x_v32 r_ ax x_v30 ay) hc∧Ah ⟨w,h,Aj⟩ ds [(d,0),(l,0),(m,0)] [⟨BG aa r_ ab a b af ag,some 43⟩,⟨[.func k f g],some 132⟩,⟨[.slice am ah.2.1.length ao,.slice an ah.2.2.1.length ap,.slice bc x_v31.length be],some 76⟩] [⟨ax,x_v30.length,ay,3,1,bg,fb⟩,⟨am,ah.2.1.length,ao,3,1,ba,0⟩,⟨an,ah.2.2.1.length,ap,3,1,bb,0⟩,⟨bc,x_v31.length,be,31,1,b3,0⟩] w'∧Ae.le b4 ds∧Ag ds x_v30 bg∧Ag ds x_v31 b3∧B9 oi r_ x_v30 x_v31 x_v32=some aw) n ?_ ?_
    ·
     exact XY ah.1 ⟨ah.2.2.2,0,de,dj,ev,fa,d4,d9,ew,_,_,rfl,mi.kp,iy,Ae.le_refl _,jv,jw,hg⟩
    ·
     rintro eu _ qg ⟨x_v30,x_v31,x_v32,ax,ay,bg,fb,bc,be,b3,hc,ds,rfl,mj,cu,ci,cr,ei,br⟩
     clear hg
     obtain _ | eu:=eu
     ·
      rw [B9] at br; cases br
     rw [B9] at br
     replace bs:=bs.mono ci
     replace bt:=bt.mono ci
     replace b0:=b0.mono ci
     replace a4:=a4.mono ci
     replace du:=du.mono ci
     replace dv:=dv.mono ci
     refine XT (Aa (Rk 0 1 ((tB 64 (decide (x_v32<((r_.spares.length:Nat):Int))))::(JM x_v32 r_ ax x_v30 ay)) mj cu fun rc fs=>?_))
     refine wf (XT (wC (decide (x_v32<((r_.spares.length:Nat):Int))) fs (fun fe=>?_) (fun fe=>?_)))
     ·
      rw [fe,XW] at br
      refine wp_skip (XT (wp_block (An (by kernel_rfl) ?_)))
      replace cu:=cu.drew
      refine Ao [] [(d,0),(l,0),(m,0)] [⟨BG aa r_ ab a b af ag,some 43⟩,⟨[.func k f g],some 132⟩,⟨[.slice am ah.2.1.length ao,.slice an ah.2.2.1.length ap,.slice bc x_v31.length be],some 76⟩] ?_
      refine Dr [0,1,2] [2,1,0] ((tS 67 ax x_v30.length ay)::(tS 66 bc x_v31.length be)::(JM x_v32 r_ ax x_v30 ay)) fs cu fun rd ml=>?_
      obtain⟨hv,fw,n7,ep⟩:=cu.settle (i:=0) rfl
      replace cr:=cr.mono fw
      replace ep:Ah ⟨w,h,Aj⟩ hv [(d,0),(l,0),(m,0)] [⟨BG aa r_ ab a b af ag,some 43⟩,⟨[.func k f g],some 132⟩,⟨[.slice am ah.2.1.length ao,.slice an ah.2.2.1.length ap,.slice bc x_v31.length be],some 76⟩] [⟨ax,x_v30.length,ay,3,1,bg,(bg:List Value).length⟩,⟨am,ah.2.1.length,ao,3,1,ba,0⟩,⟨an,ah.2.2.1.length,ap,3,1,bb,0⟩,⟨bc,x_v31.length,be,31,1,b3,0⟩] (World.drew qg):=ep
      have n3:A6 hv ax ay x_v30:=⟨_,cr,n7,cu.rowCap (i:=0) rfl⟩
      obtain⟨x68,ex68,br⟩:=Aq br
      refine Dl 3 fun K hK=>?_
      refine wc [.c (.slice ax x_v30.length ay)] ml ep (C7 eu ep.has x_v30 n3 ex68) fun ro da r9 jn fx iz=>?_
      replace cr:=cr.mono fx
      replace ei:=ei.mono (XU fw fx)
      obtain⟨bd,bf,rfl,n4⟩:=jn
      refine⟨.one (.c (.slice bd x68.length bf)),rfl,fun po (mm:Kn 74 [(d,0),(l,0),(m,0)] ((tS 68 bd x68.length bf)::(tS 67 ax x_v30.length ay)::(tS 66 bc x_v31.length be)::(JM x_v32 r_ ax x_v30 ay)) po)=>hK _ _ iz.plOk ?_⟩
      refine Dl 4 fun K hK=>?_
      refine wS 31 1 [.slice bd x68.length bf] mm iz fun dh pp qh (mn:Kn 74 [(d,0),(l,0),(m,0)] ((tS 69 dh 1 1)::(tS 68 bd x68.length bf)::(tS 67 ax x_v30.length ay)::(tS 66 bc x_v31.length be)::(JM x_v32 r_ ax x_v30 ay)) pp) (gd:Ah ⟨w,h,Aj⟩ da [(d,0),(l,0),(m,0)] [⟨BG aa r_ ab a b af ag,some 43⟩,⟨[.func k f g],some 132⟩,⟨[.slice am ah.2.1.length ao,.slice an ah.2.2.1.length ap,.slice bc x_v31.length be],some 76⟩] [⟨ax,x_v30.length,ay,3,1,bg,(bg:List Value).length⟩,⟨am,ah.2.1.length,ao,3,1,ba,0⟩,⟨an,ah.2.2.1.length,ap,3,1,bb,0⟩,⟨bc,x_v31.length,be,31,1,b3,0⟩,⟨dh,1,1,31,1,([.slice bd x68.length bf]:List Value),0⟩] qh)=>?_
      have fl:Ag da ([x68]:List (List Int)) ([.slice bd x68.length bf]:List Value):=⟨_,_,rfl,((Ad n4):rep da (x68:List Int) _),rfl⟩
      refine hK _ _ gd.plOk ?_
      obtain⟨x70,ex70,br⟩:=Aq br
      obtain⟨gr,nc⟩:=A8 ex70
      refine Dl 5 fun K hK=>?_
      refine A3 3 24 1 _ (x70.length) _ ([.slice bd x68.length bf]:List Value) mn gd rfl rfl (by decide) rfl (by rfl) (by kernel_rfl) (by rfl) (by rfl) (Ag.len fl) (gd.rowCell (i:=4) rfl) fl.one (by rw [gr]; simp) (by rw [gr]; exact nc) (by decide) fun cb cf ht pq qi kk (mo:Kn 74 [(d,0),(l,0),(m,0)] ((tS 70 cb x70.length cf)::(tS 69 dh 1 1)::(tS 68 bd x68.length bf)::(tS 67 ax x_v30.length ay)::(tS 66 bc x_v31.length be)::(JM x_v32 r_ ax x_v30 ay)) pq) (gf:Ah ⟨w,h,Aj⟩ da [(d,0),(l,0),(m,0)] [⟨BG aa r_ ab a b af ag,some 43⟩,⟨[.func k f g],some 132⟩,⟨[.slice am ah.2.1.length ao,.slice an ah.2.2.1.length ap,.slice bc x_v31.length be],some 76⟩] [⟨ax,x_v30.length,ay,3,1,bg,(bg:List Value).length⟩,⟨am,ah.2.1.length,ao,3,1,ba,0⟩,⟨an,ah.2.2.1.length,ap,3,1,bb,0⟩,⟨cb,x70.length,cf,31,1,b3++([.slice bd x68.length bf]:List Value),ht⟩,⟨dh,1,1,31,1,([.slice bd x68.length bf]:List Value),0⟩] qi)=>?_
      have kb:Ag da x70 (b3++([.slice bd x68.length bf]:List Value)):=by rw [gr]; exact Ag.append ei fl
      obtain rfl:ht=0:=Nat.le_zero.1 kk
      refine hK _ _ gf.plOk ?_
      refine Dr [6] (dn 6) ((tP 71 2 2)::(tS 70 cb x70.length cf)::(JM x_v32 r_ ax x_v30 ay)) mo gf fun pr mp=>?_
      refine D8 7 rfl (by kernel_rfl) (by decide) (rfl) (by kernel_rfl) fun K hK=>?_
      refine G2 2 2 (.c (.slice cb x70.length cf)) [.slice am ah.2.1.length ao,.slice an ah.2.2.1.length ap,.slice cb x70.length cf] mp gf fun qj mq (i0:Ah ⟨w,h,Aj⟩ da [(d,0),(l,0),(m,0)] [⟨BG aa r_ ab a b af ag,some 43⟩,⟨[.func k f g],some 132⟩,⟨[.slice am ah.2.1.length ao,.slice an ah.2.2.1.length ap,.slice cb x70.length cf],some 76⟩] [⟨ax,x_v30.length,ay,3,1,bg,(bg:List Value).length⟩,⟨am,ah.2.1.length,ao,3,1,ba,0⟩,⟨an,ah.2.2.1.length,ap,3,1,bb,0⟩,⟨cb,x70.length,cf,31,1,b3++([.slice bd x68.length bf]:List Value),0⟩,⟨dh,1,1,31,1,([.slice bd x68.length bf]:List Value),0⟩] qj)=>hK _ _ ?_
      have mr:Kn 74 [(d,0),(l,0),(m,0)] (JM x_v32 r_ ax x_v30 ay) pr:=mq.kp
      refine GB (by kernel_rfl) (Aa (Rk 0 2 [tI 63 (IntKind.i64.wrap (x_v32+1)),tI 62 ((r_.spares.length:Nat):Int),tS 5 ax x_v30.length ay,tP 4 2 0] mr i0 fun rf ms=>?_))
      refine wf ?_
      exact XY eu ⟨Nat.lt_succ_self _,XY x_v30 ⟨x70,IntKind.i64.wrap (x_v32+1),ax,ay,bg,(bg:List Value).length,cb,cf,b3++([.slice bd x68.length bf]:List Value),_,_,rfl,ms.kp,i0.cutRw 4,XU ci (XU fw fx),cr,kb,br⟩⟩
     ·
      rw [fe,XV] at br
      refine wp_exit ?_
      obtain rfl:=XZ br
      exact XY ax ⟨ay,bg,fb,bc,be,b3,_,_,rfl,fs.kp,cu,ci,cr,ei⟩
   ·
    rintro _ sa ⟨cy,c0,cw,c1,a6,a8,cl,hb,c9,rfl,mt,i1,ia,qw,fk⟩
    refine XT (Aa (Rk 0 1 [tA 73 (LR am ah ao an ap a6 aw a8),tP 4 2 0] mt i1 fun ps mu=>?_))
    refine wl fun K hK=>?_
    refine G2 2 0 (.agg (LR am ah ao an ap a6 aw a8)) (LR am ah ao an ap a6 aw a8) mu i1 fun e2 mv (i2:Ah ⟨w,h,Aj⟩ c9 [(d,0),(l,0),(m,0)] [⟨BG aa r_ ab a b af ag,some 43⟩,⟨[.func k f g],some 132⟩,⟨LR am ah ao an ap a6 aw a8,some 76⟩] [⟨cy,aw.1.length,c0,3,1,cw,c1⟩,⟨am,ah.2.1.length,ao,3,1,ba,0⟩,⟨an,ah.2.2.1.length,ap,3,1,bb,0⟩,⟨a6,aw.2.length,a8,31,1,cl,0⟩] e2)=>hK _ _ ?_
    have mw:Kn 74 [(d,0),(l,0),(m,0)] [tP 4 2 0] ps:=mv.kp
    refine wf (wp_ret ?_)
    obtain⟨hw,fy,n8,er⟩:=i2.settle (i:=1) rfl
    replace du:=du.mono (XU ia fy)
    replace er:Ah ⟨w,h,Aj⟩ hw [(d,0),(l,0),(m,0)] [⟨BG aa r_ ab a b af ag,some 43⟩,⟨[.func k f g],some 132⟩,⟨LR am ah ao an ap a6 aw a8,some 76⟩] [⟨cy,aw.1.length,c0,3,1,cw,c1⟩,⟨am,ah.2.1.length,ao,3,1,ba,(ba:List Value).length⟩,⟨an,ah.2.2.1.length,ap,3,1,bb,0⟩,⟨a6,aw.2.length,a8,31,1,cl,0⟩] e2:=er
    have gi:A6 hw am ao ah.2.1:=⟨_,du,n8,i2.rowCap (i:=1) rfl⟩
    obtain⟨hx,fz,n9,es⟩:=er.settle (i:=2) rfl
    replace dv:=dv.mono (XU (XU ia fy) fz)
    replace es:Ah ⟨w,h,Aj⟩ hx [(d,0),(l,0),(m,0)] [⟨BG aa r_ ab a b af ag,some 43⟩,⟨[.func k f g],some 132⟩,⟨LR am ah ao an ap a6 aw a8,some 76⟩] [⟨cy,aw.1.length,c0,3,1,cw,c1⟩,⟨am,ah.2.1.length,ao,3,1,ba,(ba:List Value).length⟩,⟨an,ah.2.2.1.length,ap,3,1,bb,(bb:List Value).length⟩,⟨a6,aw.2.length,a8,31,1,cl,0⟩] e2:=es
    have gj:A6 hx an ap ah.2.2.1:=⟨_,dv,n9,er.rowCap (i:=2) rfl⟩
    obtain⟨fc,f0,oa,gg⟩:=es.settle (i:=3) rfl
    replace gi:=gi.mono (XU fz f0)
    replace gj:=gj.mono f0
    replace fk:=fk.mono (XU (XU fy fz) f0)
    replace gg:Ah ⟨w,h,Aj⟩ fc [(d,0),(l,0),(m,0)] [⟨BG aa r_ ab a b af ag,some 43⟩,⟨[.func k f g],some 132⟩,⟨LR am ah ao an ap a6 aw a8,some 76⟩] [⟨cy,aw.1.length,c0,3,1,cw,c1⟩,⟨am,ah.2.1.length,ao,3,1,ba,(ba:List Value).length⟩,⟨an,ah.2.2.1.length,ap,3,1,bb,(bb:List Value).length⟩,⟨a6,aw.2.length,a8,31,1,cl,(cl:List Value).length⟩] e2:=gg
    have n5:A6 fc a6 a8 aw.2:=⟨_,fk,oa,es.rowCap (i:=3) rfl⟩
    obtain rfl:=XZ H
    exact rt (.one (.agg (LR am ah ao an ap a6 aw a8))) mw gg ⟨_,rfl,((Ab (Ad gi) (Ab (Ad gj) (Ad n5))):rep fc ((Bd.mk ah.2.1 ah.2.2.1 aw.2):Bd) _)⟩
end Go.Proofs.Ytokchpjijlebiaa
