/- Each call computes its plain function. -/
import Derived.Test.YtokchpjijlebiaaProg
import Derived.Test.YtokchpjijlebiaaBGP0
import Derived.Test.YtokchpjijlebiaaBGWA
set_option linter.all false
namespace Go.Proofs.Ytokchpjijlebiaa
open Go Go.RowKit
open Rep (rep)
open KRep (kv)
open VRep (rv)
abbrev K7 (a:Option Addr) (r_:Af) (f:Nat) (b:Option Addr) (g:Nat) (d:Option Addr) (i:Nat):List SC:=[.slice a r_.legs.length f,.int .i64 r_.turn.lo,.int .i64 r_.turn.hi,.slice b r_.buses.length g,.slice d r_.spares.length i,.int .i64 r_.unit,.int .i64 r_.gap,.int .i64 r_.fr,.int .i64 r_.to_]
abbrev IP:TM:=[tB 5 true,tP 1 0 0]
set_option maxRecDepth 100000 in
set_option maxHeartbeats 4000000 in
theorem RY (n:Nat) {h:Ae} {w:World} (hh:Dn h w) (r_:Af) {cs_r_:List Value} (hx_r_:rep h r_ cs_r_) {r:Bool} (H:Ng n r_=some r) :
  Calls Try.prog 12 #[.agg cs_r_.toArray] w (Dp (fun h v=>v=.bool r) h w):=by
 obtain⟨_,_,rfl,⟨a,f,rfl,s⟩,⟨_,_,rfl,⟨_,_,rfl,rfl,rfl⟩,⟨_,_,rfl,⟨b,g,rfl,u⟩,⟨_,_,rfl,⟨d,i,rfl,x⟩,⟨_,_,rfl,rfl,⟨_,_,rfl,rfl,⟨_,_,rfl,rfl,rfl⟩⟩⟩⟩⟩⟩⟩:=hx_r_
 refine enter 28 [.agg (K7 a r_ f b g d i)] Try.func12 rfl rfl rfl rfl fun t hk=>?_
 have hm:=Ah.begin h w hh
 unfold Ng at H
 refine XT (Aa (wl fun K hK=>?_))
 refine wb (.agg (K7 a r_ f b g d i)) hk hm fun e a5 a8 (al:Kn 28 [(e,0)] [tP 1 0 0,tA 0 (K7 a r_ f b g d i)] a5) (q:Ah ⟨w,h,Aj⟩ h [(e,0)] [⟨K7 a r_ f b g d i,some 28⟩] [] a8)=>hK _ _ ?_
 refine Rk 1 1 [tP 1 0 0] al q fun bb am=>?_
 refine wf (XT (Aa (Rk 0 1 [tA 3 (K7 a r_ f b g d i),tP 1 0 0] am q fun bc an=>?_)))
 obtain⟨x4,ex4,H⟩:=Aq H
 refine wl fun K hK=>?_
 refine wc [.agg (K7 a r_ f b g d i)] an q (Rb n q.has r_ ((Ab (Ad s) (Ab (Ab Ac Ac) (Ab (Ad u) (Ab (Ad x) (Ab Ac (Ab Ac (Ab Ac Ac))))))):rep h r_ _) ex4) fun bj ak bl ai y k=>?_
 replace s:=s.mono y
 replace u:=u.mono y
 replace x:=x.mono y
 obtain rfl:=ai
 refine⟨.one (.c (.bool x4)),rfl,fun a6 (ao:Kn 28 [(e,0)] [tB 4 x4,tA 3 (K7 a r_ f b g d i),tP 1 0 0] a6)=>hK _ _ ?_⟩
 refine Rk 2 1 [tB 5 x4,tP 1 0 0] ao k fun ae z=>?_
 rcases Bool.eq_false_or_eq_true (x4) with l | l
 ·
  rw [l,XW] at H
  have ap:Kn 28 [(e,0)] IP ae:=(z.setB 5 true (by rfl) l).kp
  refine Rk 3 1 ((tA 6 (K7 a r_ f b g d i))::IP) ap k fun bd aa=>?_
  obtain⟨x7,ex7,H⟩:=Aq H
  refine AS _ rfl (Ak aa (by kernel_rfl)) fun K hK=>?_
  refine wc [.agg (K7 a r_ f b g d i)] aa k (LF n k.has r_ ((Ab (Ad s) (Ab (Ab Ac Ac) (Ab (Ad u) (Ab (Ad x) (Ab Ac (Ab Ac (Ab Ac Ac))))))):rep ak r_ _) ex7) fun bk a9 bm aj ba j=>?_
  obtain rfl:=aj
  refine⟨.one (.c (.int .i64 x7)),rfl,fun a7 (aq:Kn 28 [(e,0)] ((tI 7 x7)::(tA 6 (K7 a r_ f b g d i))::IP) a7)=>hK _ _ ?_⟩
  refine Rk 5 2 ((tB 9 (x7 != 0))::IP) aq j fun af ab=>?_
  rcases Bool.eq_false_or_eq_true ((x7 != 0)) with m | m
  ·
   rw [m,XW] at H
   have ar:Kn 28 [(e,0)] ((tB 9 true)::IP) af:=(ab.setB 9 true (by rfl) m).kp
   refine Rk 7 19 [tB 2 true] ar j fun be au=>?_
   refine wf (wp_ret ?_)
   obtain rfl:=XZ H
   exact rt (.one (.c (.bool true))) au j rfl
  ·
   rw [m,XV] at H
   have av:Kn 28 [(e,0)] ((tB 9 false)::IP) af:=(ab.setB 9 false (by rfl) m).kp
   refine Rk 7 5 ((tB 14 (decide (((r_.legs.length:Nat):Int)≤5)))::(tB 9 false)::IP) av j fun ag ac=>?_
   rcases Bool.eq_false_or_eq_true (decide (((r_.legs.length:Nat):Int)≤5)) with o | o
   ·
    rw [o,XW] at H
    have aw:Kn 28 [(e,0)] ((tB 14 true)::(tB 9 false)::IP) ag:=(ac.setB 14 true (by rfl) o).kp
    refine Rk 12 6 ((tB 20 (decide (((r_.buses.length:Nat):Int)≤2)))::(tB 9 false)::IP) aw j fun ah ad=>?_
    rcases Bool.eq_false_or_eq_true (decide (((r_.buses.length:Nat):Int)≤2)) with p | p
    ·
     rw [p,XW] at H
     have ax:Kn 28 [(e,0)] ((tB 20 true)::(tB 9 false)::IP) ah:=(ad.setB 20 true (by rfl) p).kp
     refine Rk 18 8 [tB 2 (decide (((r_.spares.length:Nat):Int)≤1))] ax j fun bf ay=>?_
     refine wf (wp_ret ?_)
     obtain rfl:=XZ H
     exact rt (.one (.c (.bool (decide (((r_.spares.length:Nat):Int)≤1))))) ay j rfl
    ·
     rw [p,XV] at H
     have az:Kn 28 [(e,0)] ((tB 20 false)::(tB 9 false)::IP) ah:=(ad.setB 20 false (by rfl) p).kp
     refine Rk 18 8 [tB 2 false] az j fun bg a0=>?_
     refine wf (wp_ret ?_)
     obtain rfl:=XZ H
     exact rt (.one (.c (.bool false))) a0 j rfl
   ·
    rw [o,XV] at H
    have a1:Kn 28 [(e,0)] ((tB 14 false)::(tB 9 false)::IP) ag:=(ac.setB 14 false (by rfl) o).kp
    refine Rk 12 14 [tB 2 false] a1 j fun bh a2=>?_
    refine wf (wp_ret ?_)
    obtain rfl:=XZ H
    exact rt (.one (.c (.bool false))) a2 j rfl
 ·
  rw [l,XV] at H
  have a3:Kn 28 [(e,0)] [tB 5 false,tP 1 0 0] ae:=(z.setB 5 false (by rfl) l).kp
  refine Rk 3 23 [tB 2 false] a3 k fun bi a4=>?_
  refine wf (wp_ret ?_)
  obtain rfl:=XZ H
  exact rt (.one (.c (.bool false))) a4 k rfl
end Go.Proofs.Ytokchpjijlebiaa
