/- Each call computes its plain function. -/
import Derived.Test.YthcbemnflgjadaaGreatProg
import Derived.Test.YthcbemnflgjadaaGreatzbP0
import Derived.Test.YthcbemnflgjadaaGreatzbWH
set_option linter.all false
namespace Go.Proofs.YthcbemnflgjadaaGreat
open Go Go.RowKit
open Rep (rep)
open KRep (kv)
open VRep (rv)
set_option maxRecDepth 100000 in
set_option maxHeartbeats 4000000 in
theorem G2 (n:Nat) {h:Ac} {w:World} (hh:Db h w) (l:List Int) {a_l:Option Addr} {c_l:Nat} (hr_l:At h a_l c_l l) (n_:Int) {r:Bool} (H:FN n l n_=some r) :
  Calls Tryz.prog 33 #[.slice a_l l.length c_l,.int .i64 n_] w (Dd (fun h v=>v=.bool r) h w):=by
 refine enter 18 [.c (.slice a_l l.length c_l),.c (.int .i64 n_)] Tryz.func33 rfl rfl rfl rfl fun t hk=>?_
 have hm:=Aj.begin h w hh
 unfold FN at H
 refine XT (Aa (Rk 0 1 [tS 0 a_l l.length c_l,tI 1 n_] hk hm fun az ah=>?_))
 refine wf (XT (XT (Aa (Rk 0 1 [tI 5 0,tS 0 a_l l.length c_l,tI 1 n_] ah hm fun a2 ak=>?_))))
 refine wf ?_
 obtain⟨ab,z,H⟩:=Ap H
 refine Aq (fun a' w'=>∃ (ad:Unit)(x:Array Value)(g:Ac),a' = ⟨x,[]⟩∧Kn 18 [] [] x∧Aj ⟨w,h,A9⟩ g [] [] [] w'∧Ac.le h g∧ab=.go ad) ?_ ?_
 ·
  refine wp_block ?_
  refine Au (fun av a' w'=>∃ (x_v10:Int)(u:Array Value)(f:Ac),a' = ⟨u,[]⟩∧Kn 18 [] [tI 5 x_v10,tS 0 a_l l.length c_l,tI 1 n_] u∧Aj ⟨w,h,A9⟩ f [] [] [] w'∧Ac.le h f∧Ej av l n_ x_v10=some ab) n ?_ ?_
  ·
   exact XY 0 ⟨_,_,rfl,ak.kp,hm,Ac.le_refl _,z⟩
  ·
   rintro s _ a7 ⟨x_v10,u,f,rfl,ag,e,q,a⟩
   clear z
   obtain _ | s:=s
   ·
    rw [Ej] at a; cases a
   rw [Ej] at a
   replace hr_l:=hr_l.mono q
   refine XT (XT (Aa (Rk 0 4 [tB 9 (decide (x_v10<((l.length:Nat):Int))),tI 5 x_v10,tS 0 a_l l.length c_l,tI 1 n_] ag e fun a0 m=>?_)))
   refine wf (wC (decide (x_v10<((l.length:Nat):Int))) m (fun i=>?_) (fun i=>?_))
   ·
    rw [i,XW] at a
    refine wp_skip (XT (wp_block (XT (Aa (Rk 0 2 [tI 13 x_v10,tS 12 a_l l.length c_l,tI 5 x_v10,tS 0 a_l l.length c_l,tI 1 n_] m e fun a1 ai=>?_)))))
    obtain⟨x14,ex14,a⟩:=Ap a
    obtain⟨ap,aq,au⟩:=Ak ex14
    obtain⟨y,ac,ax,ae,ar,af⟩:=hr_l.get (by decide) au
    obtain rfl:=ar
    have d:=e.addPlc (b:=y) (o:=ac+(x_v10:Int).toNat*1) (cs:=[.int .i64 x14]) (fun j c hj=>af j _ (Am hj)) rfl (by kernel_rfl) (by kernel_rfl)
    refine AC 2 (x_v10) rfl rfl (rfl) rfl (by decide) ai (by rfl) (by rfl) (by rfl) ae (by rfl) ap aq (by kernel_rfl) fun aw (aj:Kn 18 [(y,ac+(x_v10:Int).toNat*1)] [tP 14 0 0,tI 13 x_v10,tS 12 a_l l.length c_l,tI 5 x_v10,tS 0 a_l l.length c_l,tI 1 n_] aw)=>?_
    refine Rk 3 3 [tB 17 (x14 == n_),tI 5 x_v10,tS 0 a_l l.length c_l,tI 1 n_] aj d fun a3 p=>?_
    refine wf (wC ((x14 == n_)) p (fun k=>?_) (fun k=>?_))
    ·
     rw [k,XW] at a
     refine XT (Aa (Rk 0 1 [tB 4 true] p d fun a4 al=>?_))
     refine wf (wp_ret ?_)
     obtain rfl:=XZ a
     obtain rfl:=XZ H
     exact rt (.one (.c (.bool true))) al d rfl
    ·
     rw [k,XV] at a
     refine wp_skip (Aa (Rk 0 3 [tI 5 (IntKind.i64.wrap (x_v10+1)),tS 0 a_l l.length c_l,tI 1 n_] p d fun a5 am=>?_))
     refine wf ?_
     exact XY s ⟨Nat.lt_succ_self _,XY (IntKind.i64.wrap (x_v10+1)) ⟨_,_,rfl,(am.keep [5,0,1] (by rfl)).cut 0 (by kernel_rfl),d.cutPl 0 (by kernel_rfl),q,a⟩⟩
   ·
    rw [i,XV] at a
    refine wp_exit ?_
    obtain rfl:=XZ a
    exact XY () ⟨_,_,rfl,m.kp,e,q,rfl⟩
 ·
  rintro _ a8 ⟨ad,x,g,rfl,an,aa,ay,rfl⟩
  rw [Ex.bind_go] at H
  refine XT (Aa (Rk 0 1 [tB 4 false] an aa fun a6 ao=>?_))
  refine wf (wp_ret ?_)
  obtain rfl:=XZ H
  exact rt (.one (.c (.bool false))) ao aa rfl
abbrev JV (k:Option Addr) (y:Ag) (l:Nat) (d:Option Addr) (e:Nat):List SC:=[.slice k y.room.length l,.slice d y.buses.length e,.int .i64 y.broken]
abbrev C7 (x_v10:Int) (a_order:Option Addr) (order:List Int) (c_order:Nat):TM:=[tI 5 x_v10,tP 2 0 0,tS 1 a_order order.length c_order]
set_option maxRecDepth 100000 in
set_option maxHeartbeats 4000000 in
theorem Ie (n:Nat) {h:Ac} {w:World} (hh:Db h w) (y:Ag) {cs_y:List Value} (hx_y:rep h y cs_y) (order:List Int) {a_order:Option Addr} {c_order:Nat} (hr_order:At h a_order c_order order) {r:Bool} (H:DL n y order=some r) :
  Calls Tryz.prog 12 #[.agg cs_y.toArray,.slice a_order order.length c_order] w (Dd (fun h v=>v=.bool r) h w):=by
 obtain⟨_,_,rfl,⟨k,l,rfl,aa⟩,⟨_,_,rfl,⟨d,e,rfl,m⟩,rfl⟩⟩:=hx_y
 refine enter 63 [.agg (JV k y l d e),.c (.slice a_order order.length c_order)] Tryz.func12 rfl rfl rfl rfl fun t hk=>?_
 have hm:=Aj.begin h w hh
 unfold DL at H
 refine XT (Aa (wl fun K hK=>?_))
 refine wb (.agg (JV k y l d e)) hk hm fun a ej fu (ch:Kn 63 [(a,0)] [tP 2 0 0,tA 0 (JV k y l d e),tS 1 a_order order.length c_order] ej) z=>hK _ _ ?_
 refine Rk 1 1 [tP 2 0 0,tS 1 a_order order.length c_order] ch z fun e0 cn=>?_
 refine wf (XT (XT (Aa (Rk 0 6 [tB 12 (((order.length:Nat):Int) != ((y.buses.length:Nat):Int)),tP 2 0 0,tS 1 a_order order.length c_order] cn z fun e3 a3=>?_))))
 refine wf (wC ((((order.length:Nat):Int) != ((y.buses.length:Nat):Int))) a3 (fun ay=>?_) (fun ay=>?_))
 ·
  rw [ay,XW] at H
  refine XT (Aa (Rk 0 1 [tB 4 false] a3 z fun e6 cw=>?_))
  refine wf (wp_ret ?_)
  obtain rfl:=XZ H
  exact rt (.one (.c (.bool false))) cw z rfl
 ·
  rw [ay,XV] at H
  refine wp_skip (XT (XT (Aa (Rk 0 1 [tI 5 0,tP 2 0 0,tS 1 a_order order.length c_order] a3 z fun e8 c0=>?_))))
  refine wf ?_
  obtain⟨bv,bn,H⟩:=Ap H
  refine Aq (fun a' w'=>∃ (b0:Unit)(bi:Array Value)(av:Ac),a' = ⟨bi,[]⟩∧Kn 63 [(a,0)] [] bi∧Aj ⟨w,h,A9⟩ av [(a,0)] [⟨JV k y l d e,some 25⟩] [] w'∧Ac.le h av∧bv=.go b0) ?_ ?_
  ·
   refine wp_block ?_
   refine Au (fun eb a' w'=>∃ (x_v10:Int)(bj:Array Value)(ak:Ac),a' = ⟨bj,[]⟩∧Kn 63 [(a,0)] (C7 x_v10 a_order order c_order) bj∧Aj ⟨w,h,A9⟩ ak [(a,0)] [⟨JV k y l d e,some 25⟩] [] w'∧Ac.le h ak∧Cr eb y order x_v10=some bv) n ?_ ?_
   ·
    exact XY 0 ⟨_,_,rfl,c0.kp,z,Ac.le_refl _,bn⟩
   ·
    rintro ab _ fs ⟨x_v10,bj,ak,rfl,c5,x,af,g⟩
    clear bn
    obtain _ | ab:=ab
    ·
     rw [Cr] at g; cases g
    rw [Cr] at g
    replace aa:=aa.mono af
    replace m:=m.mono af
    replace hr_order:=hr_order.mono af
    refine XT (XT (Aa (Rk 0 4 ((tB 16 (decide (x_v10<((order.length:Nat):Int))))::(C7 x_v10 a_order order c_order)) c5 x fun fe a5=>?_)))
    refine wf (wC (decide (x_v10<((order.length:Nat):Int))) a5 (fun a0=>?_) (fun a0=>?_))
    ·
     rw [a0,XW] at g
     refine wp_skip (XT (wp_block (XT (XT ?_))))
     obtain⟨bw,i,g⟩:=Ap g
     refine Aq (fun a' w'=>∃ (bk:Array Value)(ad:Ac),a' = ⟨bk,[]⟩∧Kn 63 [(a,0)] [tI 5 x_v10,tP 2 0 0,tS 1 a_order order.length c_order,tB 38 bw] bk∧Aj ⟨w,h,A9⟩ ad [(a,0)] [⟨JV k y l d e,some 25⟩] [] w'∧Ac.le ak ad) ?_ ?_
     ·
      refine Ax (by kernel_rfl) ?_
      replace x:=x.drew
      refine A3 [] [(a,0)] [⟨JV k y l d e,some 25⟩] ?_
      refine Dr [0,1] [1,0] ((tI 20 x_v10)::(tS 19 a_order order.length c_order)::(C7 x_v10 a_order order c_order)) a5 x fun ff c6=>?_
      obtain⟨x21,ex21,i⟩:=Ap i
      obtain⟨dm,dv,d8⟩:=Ak ex21
      obtain⟨q,s,er,b9,d2,cf⟩:=hr_order.get (by decide) d8
      obtain rfl:=d2
      have bb:=x.addPlc (b:=q) (o:=s+(x_v10:Int).toNat*1) (cs:=[.int .i64 x21]) (fun j c hj=>cf j _ (Am hj)) rfl (by kernel_rfl) (by kernel_rfl)
      refine AA 2 (x_v10) [.int .i64 x21] (fun _ _ _ _ _ h=>h) rfl rfl (rfl) rfl (by decide) (by kernel_rfl) (by kernel_rfl) c6 x.plOk (by rfl) (by rfl) (by rfl) b9 (by rfl) dm dv (by kernel_rfl) fun eh (c7:Kn 63 [(a,0),(q,s+(x_v10:Int).toNat*1)] ((tP 21 1 0)::(tI 20 x_v10)::(tS 19 a_order order.length c_order)::(C7 x_v10 a_order order c_order)) eh)=>?_
      refine Dr [3,4,5,6,7] (dn 7) ((tI 26 (IntKind.i64.wrap (((y.buses.length:Nat):Int)-1)))::(tI 22 x21)::(C7 x_v10 a_order order c_order)) c7 bb fun fg c8=>?_
      obtain⟨x27,ex27,i⟩:=Ap i
      refine Dl 8 fun K hK=>?_
      refine wc [.c (.int .i64 x21),.c (.int .i64 0),.c (.int .i64 (IntKind.i64.wrap (((y.buses.length:Nat):Int)-1)))] c8 bb (Fe ab bb.has x21 0 (IntKind.i64.wrap (((y.buses.length:Nat):Int)-1)) ex27) fun fl b4 ft b3 ag p=>?_
      replace aa:=aa.mono ag
      replace m:=m.mono ag
      replace hr_order:=hr_order.mono ag
      obtain rfl:=b3
      refine⟨.one (.c (.bool x27)),rfl,fun ei (c9:Kn 63 [(a,0),(q,s+(x_v10:Int).toNat*1)] ((tB 27 x27)::(tI 26 (IntKind.i64.wrap (((y.buses.length:Nat):Int)-1)))::(tI 22 x21)::(C7 x_v10 a_order order c_order)) ei)=>hK _ _ p.plOk ?_⟩
      refine Dr [9,10] (dn 10) ((tB 29 (!x27))::(C7 x_v10 a_order order c_order)) c9 p fun b1 bo=>?_
      rcases Bool.eq_false_or_eq_true ((!x27)) with ae | ae
      ·
       rw [ae,XW] at i
       have da:Kn 63 [(a,0),(q,s+(x_v10:Int).toNat*1)] ((tB 29 true)::(C7 x_v10 a_order order c_order)) b1:=(bo.setB 29 true (by rfl) ae).kp
       refine Dr [11,12,13,14,15,16,17,18,19] (dn 19) ((tB 38 true)::(C7 x_v10 a_order order c_order)) da p fun fh db=>?_
       refine AE (by kernel_rfl) ?_
       obtain rfl:=XZ i
       exact XY _ ⟨_,rfl,(db.keep [5,2,1,38] (by rfl)).cut 1 (by kernel_rfl),p.cutPl 1 (by kernel_rfl),ag⟩
      ·
       rw [ae,XV] at i
       have dc:Kn 63 [(a,0),(q,s+(x_v10:Int).toNat*1)] ((tB 29 false)::(C7 x_v10 a_order order c_order)) b1:=(bo.setB 29 false (by rfl) ae).kp
       refine Dr [11,12] (dn 12) ((tI 31 x_v10)::(tS 30 a_order order.length c_order)::(tB 29 false)::(C7 x_v10 a_order order c_order)) dc p fun fi a6=>?_
       obtain⟨x32,ex32,i⟩:=Ap i
       obtain⟨dp,ew,bt⟩:=RR ex32
       have eu:order.length≤c_order:=hr_order.cap
       have dx:At b4 a_order c_order x32:=by rw [bt]; exact hr_order.take _
       have dh:(x_v10:Int).toNat=x32.length:=by rw [bt,List.length_take]; omega
       refine II 13 (.one (.c (.slice a_order x32.length c_order))) (fun _ _ _ _ _ h=>h) rfl (by kernel_rfl) (by kernel_rfl) (Al a6 (by kernel_rfl)) rfl p.plOk (fun _ h=>h) (fun w=>RS (T:=22) (E:=3) (sz:=1) a6 rfl rfl rfl (by kernel_rfl) (by kernel_rfl) dp (by omega) dh) (a6.put (by decide) _) fun ek (dd:Kn 63 [(a,0),(q,s+(x_v10:Int).toNat*1)] ((tS 32 a_order x32.length c_order)::(tI 31 x_v10)::(tS 30 a_order order.length c_order)::(tB 29 false)::(C7 x_v10 a_order order c_order)) ek)=>?_
       refine Dr [14,15] (dn 15) ((tI 34 x_v10)::(tS 33 a_order order.length c_order)::(tS 32 a_order x32.length c_order)::(tB 29 false)::(C7 x_v10 a_order order c_order)) dd p fun fj bp=>?_
       obtain⟨x35,ex35,i⟩:=Ap i
       obtain⟨dq,dw,d9⟩:=Ak ex35
       obtain⟨aq,bf,es,ca,d3,cg⟩:=hr_order.get (by decide) d9
       obtain rfl:=d3
       have bc:=p.addPlc (b:=aq) (o:=bf+(x_v10:Int).toNat*1) (cs:=[.int .i64 x35]) (fun j c hj=>cg j _ (Am hj)) rfl (by kernel_rfl) (by kernel_rfl)
       refine AA 16 (x_v10) [.int .i64 x35] (fun _ _ _ _ _ h=>h) rfl rfl (Al bp (by kernel_rfl)) rfl (by decide) (by kernel_rfl) (by kernel_rfl) bp p.plOk (by rfl) (by rfl) (by rfl) ca (by rfl) dq dw (by kernel_rfl) fun el (de:Kn 63 [(a,0),(q,s+(x_v10:Int).toNat*1),(aq,bf+(x_v10:Int).toNat*1)] ((tP 35 2 0)::(tI 34 x_v10)::(tS 33 a_order order.length c_order)::(tS 32 a_order x32.length c_order)::(tB 29 false)::(C7 x_v10 a_order order c_order)) el)=>?_
       refine Dr [17] (dn 17) ((tI 36 x35)::(tS 32 a_order x32.length c_order)::(tB 29 false)::(C7 x_v10 a_order order c_order)) de bc fun fk bq=>?_
       obtain⟨x37,ex37,i⟩:=Ap i
       refine DV 18 rfl (by kernel_rfl) (by decide) (Al bq (by kernel_rfl)) fun K hK=>?_
       refine wc [.c (.slice a_order x32.length c_order),.c (.int .i64 x35)] bq bc (G2 ab bc.has x32 dx x35 ex37) fun fm et fn b2 df a7=>?_
       obtain rfl:=b2
       refine⟨.one (.c (.bool x37)),rfl,fun ec (ci:Kn 63 [(a,0),(q,s+(x_v10:Int).toNat*1),(aq,bf+(x_v10:Int).toNat*1)] ((tB 37 x37)::(tI 36 x35)::(tS 32 a_order x32.length c_order)::(tB 29 false)::(C7 x_v10 a_order order c_order)) ec)=>hK _ _ a7.plOk ?_⟩
       refine Dr [19] (dn 19) ((tB 38 x37)::(C7 x_v10 a_order order c_order)) ci a7 fun ex cj=>?_
       refine AE (by kernel_rfl) ?_
       obtain rfl:=XZ i
       exact XY _ ⟨_,rfl,(cj.keep [5,2,1,38] (by rfl)).cut 1 (by kernel_rfl),a7.cutPl 1 (by kernel_rfl),XU ag df⟩
     ·
      rintro _ fo ⟨bk,ad,rfl,a1,an,al⟩
      replace aa:=aa.mono al
      replace m:=m.mono al
      replace hr_order:=hr_order.mono al
      refine wC (bw) a1 (fun aw=>?_) (fun aw=>?_)
      ·
       rw [Bc aw] at g
       refine XT (Aa (Rk 0 1 [tB 4 false] a1 an fun ey ck=>?_))
       refine wf (wp_ret ?_)
       obtain rfl:=XZ g
       obtain rfl:=XZ H
       exact rt (.one (.c (.bool false))) ck an rfl
      ·
       rw [Bd aw] at g
       refine wp_skip (XT (Aa (Rk 0 1 ((tI 6 0)::(C7 x_v10 a_order order c_order)) a1 an fun ez cl=>?_)))
       refine wf ?_
       obtain⟨bu,bm,g⟩:=Ap g
       refine Aq (fun a' w'=>∃ (bz:Unit)(bg:Array Value)(ar:Ac),a' = ⟨bg,[]⟩∧Kn 63 [(a,0)] (C7 x_v10 a_order order c_order) bg∧Aj ⟨w,h,A9⟩ ar [(a,0)] [⟨JV k y l d e,some 25⟩] [] w'∧Ac.le ad ar∧bu=.go bz) ?_ ?_
       ·
        refine wp_block ?_
        refine Au (fun ea a' w'=>∃ (x_v20:Int)(bh:Array Value)(au:Ac),a' = ⟨bh,[]⟩∧Kn 63 [(a,0)] ((tI 6 x_v20)::(C7 x_v10 a_order order c_order)) bh∧Aj ⟨w,h,A9⟩ au [(a,0)] [⟨JV k y l d e,some 25⟩] [] w'∧Ac.le ad au∧Cq ea y order x_v10 x_v20=some bu) ab ?_ ?_
        ·
         exact XY 0 ⟨_,_,rfl,cl.kp,an,Ac.le_refl _,bm⟩
        ·
         rintro bd _ fp ⟨x_v20,bh,au,rfl,cm,u,am,f⟩
         clear bm
         obtain _ | bd:=bd
         ·
          rw [Cq] at f; cases f
         rw [Cq] at f
         replace m:=m.mono am
         replace hr_order:=hr_order.mono am
         refine XT (XT (Aa (Rk 0 3 ((tB 41 (decide (x_v20<x_v10)))::(tI 6 x_v20)::(C7 x_v10 a_order order c_order)) cm u fun e1 a2=>?_)))
         refine wf (wC (decide (x_v20<x_v10)) a2 (fun ax=>?_) (fun ax=>?_))
         ·
          rw [ax,XW] at f
          refine wp_skip (XT (wp_block (XT (Ax (by kernel_rfl) ?_))))
          replace u:=u.drew
          refine A3 [] [(a,0)] [⟨JV k y l d e,some 25⟩] ?_
          refine Dr [0,1,2,3] (dn 3) ((tI 47 x_v20)::(tS 46 a_order order.length c_order)::(tS 45 d y.buses.length e)::(tI 6 x_v20)::(C7 x_v10 a_order order c_order)) a2 u fun e2 co=>?_
          obtain⟨x48,ex48,f⟩:=Ap f
          obtain⟨di,dr,d4⟩:=Ak ex48
          obtain⟨ac,ai,em,b5,dy,cb⟩:=hr_order.get (by decide) d4
          obtain rfl:=dy
          have a8:=u.addPlc (b:=ac) (o:=ai+(x_v20:Int).toNat*1) (cs:=[.int .i64 x48]) (fun j c hj=>cb j _ (Am hj)) rfl (by kernel_rfl) (by kernel_rfl)
          refine AA 4 (x_v20) [.int .i64 x48] (fun _ _ _ _ _ h=>h) rfl rfl (rfl) rfl (by decide) (by kernel_rfl) (by kernel_rfl) co u.plOk (by rfl) (by rfl) (by rfl) b5 (by rfl) di dr (by kernel_rfl) fun ed (cp:Kn 63 [(a,0),(ac,ai+(x_v20:Int).toNat*1)] ((tP 48 1 0)::(tI 47 x_v20)::(tS 46 a_order order.length c_order)::(tS 45 d y.buses.length e)::(tI 6 x_v20)::(C7 x_v10 a_order order c_order)) ed)=>?_
          refine Dr [5] (dn 5) ((tI 49 x48)::(tS 45 d y.buses.length e)::(tI 6 x_v20)::(C7 x_v10 a_order order c_order)) cp a8 fun e4 cq=>?_
          obtain⟨x50,ex50,f⟩:=Ap f
          obtain⟨dj,ds,d5⟩:=Ak ex50
          obtain⟨aj,ao,en,b6,dz,cc⟩:=m.get (by decide) d5
          obtain⟨_,_,rfl,rfl,⟨_,_,rfl,rfl,rfl⟩⟩:=dz
          have a9:=a8.addPlc (b:=aj) (o:=ao+(x48:Int).toNat*3) (cs:=[.int .i64 x50.lo,.int .i64 x50.hi,.int .i64 x50.turn]) (fun j c hj=>cc j _ (Am hj)) rfl (by kernel_rfl) (by kernel_rfl)
          refine AA 6 (x48) [.int .i64 x50.lo,.int .i64 x50.hi,.int .i64 x50.turn] (fun _ _ _ _ _ h=>h) rfl rfl (rfl) rfl (by decide) (by kernel_rfl) (by kernel_rfl) cq a8.plOk (by rfl) (by rfl) (by rfl) b6 (by rfl) dj ds (by kernel_rfl) fun ee (cr:Kn 63 [(a,0),(ac,ai+(x_v20:Int).toNat*1),(aj,ao+(x48:Int).toNat*3)] ((tP 50 2 0)::(tI 49 x48)::(tS 45 d y.buses.length e)::(tI 6 x_v20)::(C7 x_v10 a_order order c_order)) ee)=>?_
          refine Dr [7,8,9,10,11,12] (dn 12) ((tI 56 x_v10)::(tS 55 a_order order.length c_order)::(tS 54 d y.buses.length e)::(tI 52 x50.lo)::(tI 6 x_v20)::(C7 x_v10 a_order order c_order)) cr a9 fun e5 ct=>?_
          obtain⟨x57,ex57,f⟩:=Ap f
          obtain⟨dk,dt,d6⟩:=Ak ex57
          obtain⟨ap,be,eo,b7,d0,cd⟩:=hr_order.get (by decide) d6
          obtain rfl:=d0
          have ba:=a9.addPlc (b:=ap) (o:=be+(x_v10:Int).toNat*1) (cs:=[.int .i64 x57]) (fun j c hj=>cd j _ (Am hj)) rfl (by kernel_rfl) (by kernel_rfl)
          refine AA 13 (x_v10) [.int .i64 x57] (fun _ _ _ _ _ h=>h) rfl rfl (rfl) rfl (by decide) (by kernel_rfl) (by kernel_rfl) ct a9.plOk (by rfl) (by rfl) (by rfl) b7 (by rfl) dk dt (by kernel_rfl) fun ef (cu:Kn 63 [(a,0),(ac,ai+(x_v20:Int).toNat*1),(aj,ao+(x48:Int).toNat*3),(ap,be+(x_v10:Int).toNat*1)] ((tP 57 3 0)::(tI 56 x_v10)::(tS 55 a_order order.length c_order)::(tS 54 d y.buses.length e)::(tI 52 x50.lo)::(tI 6 x_v20)::(C7 x_v10 a_order order c_order)) ef)=>?_
          refine Dr [14] (dn 14) ((tI 58 x57)::(tS 54 d y.buses.length e)::(tI 52 x50.lo)::(tI 6 x_v20)::(C7 x_v10 a_order order c_order)) cu ba fun e7 cv=>?_
          obtain⟨x59,ex59,f⟩:=Ap f
          obtain⟨dl,du,d7⟩:=Ak ex59
          obtain⟨bl,bx,ep,b8,d1,ce⟩:=m.get (by decide) d7
          obtain⟨_,_,rfl,rfl,⟨_,_,rfl,rfl,rfl⟩⟩:=d1
          have ah:=ba.addPlc (b:=bl) (o:=bx+(x57:Int).toNat*3) (cs:=[.int .i64 x59.lo,.int .i64 x59.hi,.int .i64 x59.turn]) (fun j c hj=>ce j _ (Am hj)) rfl (by kernel_rfl) (by kernel_rfl)
          refine AA 15 (x57) [.int .i64 x59.lo,.int .i64 x59.hi,.int .i64 x59.turn] (fun _ _ _ _ _ h=>h) rfl rfl (rfl) rfl (by decide) (by kernel_rfl) (by kernel_rfl) cv ba.plOk (by rfl) (by rfl) (by rfl) b8 (by rfl) dl du (by kernel_rfl) fun eg (cx:Kn 63 [(a,0),(ac,ai+(x_v20:Int).toNat*1),(aj,ao+(x48:Int).toNat*3),(ap,be+(x_v10:Int).toNat*1),(bl,bx+(x57:Int).toNat*3)] ((tP 59 4 0)::(tI 58 x57)::(tS 54 d y.buses.length e)::(tI 52 x50.lo)::(tI 6 x_v20)::(C7 x_v10 a_order order c_order)) eg)=>?_
          refine Dr [16,17,18] (dn 18) ((tB 62 (decide (x50.lo>x59.hi)))::(tI 6 x_v20)::(C7 x_v10 a_order order c_order)) cx ah fun e9 a4=>?_
          refine AE (by kernel_rfl) (wC (decide (x50.lo>x59.hi)) a4 (fun az=>?_) (fun az=>?_))
          ·
           rw [az,XW] at f
           refine XT (Aa (Rk 0 1 [tB 4 false] a4 ah fun fa cy=>?_))
           refine wf (wp_ret ?_)
           obtain rfl:=XZ f
           obtain rfl:=XZ g
           obtain rfl:=XZ H
           exact rt (.one (.c (.bool false))) cy ah rfl
          ·
           rw [az,XV] at f
           refine wp_skip (Aa (Rk 0 3 ((tI 6 (IntKind.i64.wrap (x_v20+1)))::(C7 x_v10 a_order order c_order)) a4 ah fun fb cz=>?_))
           refine wf ?_
           exact XY bd ⟨Nat.lt_succ_self _,XY (IntKind.i64.wrap (x_v20+1)) ⟨_,_,rfl,(cz.keep [6,5,2,1] (by rfl)).cut 1 (by kernel_rfl),ah.cutPl 1 (by kernel_rfl),am,f⟩⟩
         ·
          rw [ax,XV] at f
          refine wp_exit ?_
          obtain rfl:=XZ f
          exact XY () ⟨_,_,rfl,a2.kp,u,am,rfl⟩
       ·
        rintro _ fq ⟨bz,bg,ar,rfl,c1,br,dg,rfl⟩
        rw [Ex.bind_go] at g
        refine Aa (Rk 0 3 [tI 5 (IntKind.i64.wrap (x_v10+1)),tP 2 0 0,tS 1 a_order order.length c_order] c1 br fun fc c2=>?_)
        refine wf ?_
        exact XY ab ⟨Nat.lt_succ_self _,XY (IntKind.i64.wrap (x_v10+1)) ⟨_,_,rfl,c2.kp,br,XU af (XU al dg),g⟩⟩
    ·
     rw [a0,XV] at g
     refine wp_exit ?_
     obtain rfl:=XZ g
     exact XY () ⟨_,_,rfl,a5.kp,x,af,rfl⟩
  ·
   rintro _ fr ⟨b0,bi,av,rfl,c3,bs,ev,rfl⟩
   rw [Ex.bind_go] at H
   refine XT (Aa (Rk 0 1 [tB 4 true] c3 bs fun fd c4=>?_))
   refine wf (wp_ret ?_)
   obtain rfl:=XZ H
   exact rt (.one (.c (.bool true))) c4 bs rfl
end Go.Proofs.YthcbemnflgjadaaGreat
