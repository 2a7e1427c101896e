/- Each call computes its plain function. -/
import Derived.Test.YthcbemnflgjadaaProg
import Derived.Test.YthcbemnflgjadaaknP0
set_option linter.all false
namespace Go.Proofs.Ythcbemnflgjadaa
open Go Go.RowKit
open Rep (rep)
open KRep (kv)
open VRep (rv)
set_option maxRecDepth 100000 in
set_option maxHeartbeats 4000000 in
theorem QM (n:Nat) {h:Ac} {w:World} (hh:Dz h w) (l:List Int) {a_l:Option Addr} {c_l:Nat} (hr_l:A5 h a_l c_l l) (n_:Int) {r:Bool} (H:Kk n l n_=some r) :
  Calls Try.prog 45 #[.slice a_l l.length c_l,.int .i64 n_] w (DI (fun h v=>v=.bool r) h w):=by
 refine enter 18 [.c (.slice a_l l.length c_l),.c (.int .i64 n_)] Try.func45 rfl rfl rfl rfl fun t hk=>?_
 have hm:=Am.begin h w hh
 unfold Kk at H
 refine XT (Aa (Rk 0 1 [tS 0 a_l l.length c_l,tI 1 n_] hk hm fun az ah=>?_))
 refine wf (XT (XT (Aa (Rk 0 1 [tI 5 0,tS 0 a_l l.length c_l,tI 1 n_] ah hm fun a2 ak=>?_))))
 refine wf ?_
 obtain⟨ab,z,H⟩:=Aq H
 refine Au (fun a' w'=>∃ (ad:Unit)(x:Array Value)(g:Ac),a' = ⟨x,[]⟩∧Kn 18 [] [] x∧Am ⟨w,h,AP⟩ g [] [] [] w'∧Ac.le h g∧ab=.go ad) ?_ ?_
 ·
  refine wp_block ?_
  refine Ay (fun av a' w'=>∃ (x_v10:Int)(u:Array Value)(f:Ac),a' = ⟨u,[]⟩∧Kn 18 [] [tI 5 x_v10,tS 0 a_l l.length c_l,tI 1 n_] u∧Am ⟨w,h,AP⟩ f [] [] [] w'∧Ac.le h f∧Ej av l n_ x_v10=some ab) n ?_ ?_
  ·
   exact XY 0 ⟨_,_,rfl,ak.kp,hm,Ac.le_refl _,z⟩
  ·
   rintro s _ a7 ⟨x_v10,u,f,rfl,ag,e,q,a⟩
   clear z
   obtain _ | s:=s
   ·
    rw [Ej] at a; cases a
   rw [Ej] at a
   replace hr_l:=hr_l.mono q
   refine XT (XT (Aa (Rk 0 4 [tB 9 (decide (x_v10<((l.length:Nat):Int))),tI 5 x_v10,tS 0 a_l l.length c_l,tI 1 n_] ag e fun a0 m=>?_)))
   refine wf (wC (decide (x_v10<((l.length:Nat):Int))) m (fun i=>?_) (fun i=>?_))
   ·
    rw [i,XW] at a
    refine wp_skip (XT (wp_block (XT (Aa (Rk 0 2 [tI 13 x_v10,tS 12 a_l l.length c_l,tI 5 x_v10,tS 0 a_l l.length c_l,tI 1 n_] m e fun a1 ai=>?_)))))
    obtain⟨x14,ex14,a⟩:=Aq a
    obtain⟨ap,aq,au⟩:=Ak ex14
    obtain⟨y,ac,ax,ae,ar,af⟩:=hr_l.get (by decide) au
    obtain rfl:=ar
    have d:=e.addPlc (b:=y) (o:=ac+(x_v10:Int).toNat*1) (cs:=[.int .i64 x14]) (fun j c hj=>af j _ (Al hj)) rfl (by kernel_rfl) (by kernel_rfl)
    refine AT 2 (x_v10) rfl rfl (rfl) rfl (by decide) ai (by rfl) (by rfl) (by rfl) ae (by rfl) ap aq (by kernel_rfl) fun aw (aj:Kn 18 [(y,ac+(x_v10:Int).toNat*1)] [tP 14 0 0,tI 13 x_v10,tS 12 a_l l.length c_l,tI 5 x_v10,tS 0 a_l l.length c_l,tI 1 n_] aw)=>?_
    refine Rk 3 3 [tB 17 (x14 == n_),tI 5 x_v10,tS 0 a_l l.length c_l,tI 1 n_] aj d fun a3 p=>?_
    refine wf (wC ((x14 == n_)) p (fun k=>?_) (fun k=>?_))
    ·
     rw [k,XW] at a
     refine XT (Aa (Rk 0 1 [tB 4 true] p d fun a4 al=>?_))
     refine wf (wp_ret ?_)
     obtain rfl:=XZ a
     obtain rfl:=XZ H
     exact rt (.one (.c (.bool true))) al d rfl
    ·
     rw [k,XV] at a
     refine wp_skip (Aa (Rk 0 3 [tI 5 (IntKind.i64.wrap (x_v10+1)),tS 0 a_l l.length c_l,tI 1 n_] p d fun a5 am=>?_))
     refine wf ?_
     exact XY s ⟨Nat.lt_succ_self _,XY (IntKind.i64.wrap (x_v10+1)) ⟨_,_,rfl,(am.keep [5,0,1] (by rfl)).cut 0 (by kernel_rfl),d.cutPl 0 (by kernel_rfl),q,a⟩⟩
   ·
    rw [i,XV] at a
    refine wp_exit ?_
    obtain rfl:=XZ a
    exact XY () ⟨_,_,rfl,m.kp,e,q,rfl⟩
 ·
  rintro _ a8 ⟨ad,x,g,rfl,an,aa,ay,rfl⟩
  rw [Ex.bind_go] at H
  refine XT (Aa (Rk 0 1 [tB 4 false] an aa fun a6 ao=>?_))
  refine wf (wp_ret ?_)
  obtain rfl:=XZ H
  exact rt (.one (.c (.bool false))) ao aa rfl
end Go.Proofs.Ythcbemnflgjadaa
