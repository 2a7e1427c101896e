/- Each call computes its plain function. -/
import Derived.Test.YthcbemnflgjadaaProg
import Derived.Test.YthcbemnflgjadaanbP0
import Derived.Test.YthcbemnflgjadaanbWD
import Derived.Test.YthcbemnflgjadaanbWF
import Derived.Test.YthcbemnflgjadaanbWG
import Derived.Test.YthcbemnflgjadaanbWH
import Derived.Test.YthcbemnflgjadaanbWJ
import Derived.Test.YthcbemnflgjadaanbWK
set_option linter.all false
namespace Go.Proofs.Ythcbemnflgjadaa
open Go Go.RowKit
open Rep (rep)
open KRep (kv)
open VRep (rv)
abbrev H9 (b:Option Addr) (y:Ag) (e:Nat) (d:Option Addr) (f:Nat):List SC:=[.slice b y.room.length e,.slice d y.buses.length f,.int .i64 y.broken]
abbrev Sj (s:Option Addr) (x30:Ag) (x:Nat) (u:Option Addr) (z:Nat):List SC:=[.slice s x30.room.length x,.slice u x30.buses.length z,.int .i64 x30.broken]
abbrev JO (x33:(List Int)×(List Int)×Int×Int) (x24:(List Int)×Int×Int):TM:=[tI 11 x33.2.2.2,tI 10 x33.2.2.1,tI 6 x24.2.1]
abbrev KP (a_lanes:Option Addr) (lanes:List Int) (c_lanes:Nat):TM:=[tP 2 0 0,tS 1 a_lanes lanes.length c_lanes]
set_option maxRecDepth 100000 in
set_option maxHeartbeats 4000000 in
theorem Mk (n:Nat) {h:Ac} {w:World} (hh:D7 h w) (y:Ag) {cs_y:List Value} (hx_y:rep h y cs_y) (lanes:List Int) {a_lanes:Option Addr} {c_lanes:Nat} (hr_lanes:A6 h a_lanes c_lanes lanes) {r:Bool} (H:FA n y lanes=some r) :
  Calls Try.prog 4 #[.agg cs_y.toArray,.slice a_lanes lanes.length c_lanes] w (DA (fun h v=>v=.bool r) h w):=by
 obtain⟨_,_,rfl,⟨b,e,rfl,l⟩,⟨_,_,rfl,⟨d,f,rfl,m⟩,rfl⟩⟩:=hx_y
 refine enter 75 [.agg (H9 b y e d f),.c (.slice a_lanes lanes.length c_lanes)] Try.func4 rfl rfl rfl rfl fun t hk=>?_
 have hm:=Al.begin h w hh
 unfold FA at H
 refine XT (Aa (wl fun K hK=>?_))
 refine wb (.agg (H9 b y e d f)) hk hm fun a ep gj (cw:Kn 75 [(a,0)] [tP 2 0 0,tA 0 (H9 b y e d f),tS 1 a_lanes lanes.length c_lanes] ep) ax=>hK _ _ ?_
 refine Rk 1 1 (KP a_lanes lanes c_lanes) cw ax fun e5 c0=>?_
 refine wf (XT (XT ?_))
 obtain⟨bg,aa,H⟩:=Ap H
 refine Au (fun a' w'=>∃ (bi:Array Value)(au:Ac),a' = ⟨bi,[]⟩∧Kn 75 [(a,0)] [tP 2 0 0,tS 1 a_lanes lanes.length c_lanes,tB 19 bg] bi∧Al ⟨w,h,AT⟩ au [(a,0)] [⟨H9 b y e d f,some 25⟩] [] w'∧Ac.le h au) ?_ ?_
 ·
  refine Aa (Rk 0 1 ((tA 12 (H9 b y e d f))::(KP a_lanes lanes c_lanes)) c0 ax fun fc de=>?_)
  obtain⟨x13,ex13,aa⟩:=Ap aa
  refine wl fun K hK=>?_
  refine wc [.agg (H9 b y e d f)] de ax (KN n ax.has y ((Ab (Ae l) (Ab (Ae m) Ad)):rep h y _) ex13) fun fw eu ga cn b1 ak=>?_
  obtain rfl:=cn
  refine⟨.one (.c (.bool x13)),rfl,fun el (dw:Kn 75 [(a,0)] ((tB 13 x13)::(tA 12 (H9 b y e d f))::(KP a_lanes lanes c_lanes)) el)=>hK _ _ ?_⟩
  refine Rk 2 2 ((tB 15 (!x13))::(KP a_lanes lanes c_lanes)) dw ak fun ch bz=>?_
  rcases Bool.eq_false_or_eq_true ((!x13)) with ai | ai
  ·
   rw [ai,XW] at aa
   have dx:Kn 75 [(a,0)] ((tB 15 true)::(KP a_lanes lanes c_lanes)) ch:=(bz.setB 15 true (by rfl) ai).kp
   refine Rk 4 4 ((tB 19 true)::(KP a_lanes lanes c_lanes)) dx ak fun fm dy=>?_
   refine wf ?_
   obtain rfl:=XZ aa
   exact XY _ ⟨_,rfl,dy.kp,ak,b1⟩
  ·
   rw [ai,XV] at aa
   have dz:Kn 75 [(a,0)] ((tB 15 false)::(KP a_lanes lanes c_lanes)) ch:=(bz.setB 15 false (by rfl) ai).kp
   refine Rk 4 4 ((tB 19 (decide (((lanes.length:Nat):Int)>15)))::(KP a_lanes lanes c_lanes)) dz ak fun fn d0=>?_
   refine wf ?_
   obtain rfl:=XZ aa
   exact XY _ ⟨_,rfl,d0.kp,ak,b1⟩
 ·
  rintro _ gd ⟨bi,au,rfl,a7,al,a9⟩
  replace l:=l.mono a9
  replace m:=m.mono a9
  replace hr_lanes:=hr_lanes.mono a9
  refine wC (bg) a7 (fun a4=>?_) (fun a4=>?_)
  ·
   rw [B7 a4] at H
   refine XT (Aa ?_)
   obtain⟨x20,ex20,H⟩:=Ap H
   refine wl fun K hK=>?_
   refine wc [] a7 al (Ds n al.has  ex20) fun fz ex gf cp e2 b6=>?_
   obtain rfl:=cp
   refine⟨.one (.c (.bool x20)),rfl,fun em (d1:Kn 75 [(a,0)] [tB 20 x20,tP 2 0 0,tS 1 a_lanes lanes.length c_lanes,tB 19 bg] em)=>hK _ _ ?_⟩
   refine Rk 1 1 [tB 4 x20] d1 b6 fun fo d2=>?_
   refine wf (wp_ret ?_)
   obtain rfl:=XZ H
   exact rt (.one (.c (.bool x20))) d2 b6 rfl
  ·
   rw [B8 a4] at H
   refine wp_skip (XT (Aa (Rk 0 1 ((tA 22 (H9 b y e d f))::(KP a_lanes lanes c_lanes)) a7 al fun fp d3=>?_)))
   obtain⟨x23,ex23,H⟩:=Ap H
   refine wl fun K hK=>?_
   refine wc [.agg (H9 b y e d f)] d3 al (C6 n al.has y ((Ab (Ae l) (Ab (Ae m) Ad)):rep au y _) ex23) fun f0 ct gg cq ba b7=>?_
   obtain⟨_,rfl,⟨_,_,rfl,⟨an,aq,rfl,ed⟩,⟨_,_,rfl,⟨ao,ar,rfl,ee⟩,rfl⟩⟩⟩:=cq
   refine⟨.one (.agg [.slice an x23.room.length aq,.slice ao x23.buses.length ar,.int .i64 x23.broken]),rfl,fun en (d4:Kn 75 [(a,0)] ((tA 23 [.slice an x23.room.length aq,.slice ao x23.buses.length ar,.int .i64 x23.broken])::(tA 22 (H9 b y e d f))::(KP a_lanes lanes c_lanes)) en)=>hK _ _ ?_⟩
   obtain⟨x24,ex24,H⟩:=Ap H
   refine wl fun K hK=>?_
   refine wc [.agg [.slice an x23.room.length aq,.slice ao x23.buses.length ar,.int .i64 x23.broken]] d4 b7 (H7 n b7.has x23 ((Ab (Ae ed) (Ab (Ae ee) Ad)):rep ct x23 _) ex24) fun f1 cu gh cr bb ay=>?_
   replace l:=l.mono (XU ba bb)
   replace m:=m.mono (XU ba bb)
   obtain⟨_,_,_,rfl,⟨g,i,rfl,bd⟩,rfl,rfl⟩:=cr
   refine⟨.tup [.c (.slice g x24.1.length i),.c (.int .i64 x24.2.1),.c (.int .i64 x24.2.2)],rfl,fun eo (d5:Kn 75 [(a,0)] ((24,.tup [.c (.slice g x24.1.length i),.c (.int .i64 x24.2.1),.c (.int .i64 x24.2.2)])::(tA 23 [.slice an x23.room.length aq,.slice ao x23.buses.length ar,.int .i64 x23.broken])::(tA 22 (H9 b y e d f))::(KP a_lanes lanes c_lanes)) eo)=>hK _ _ ?_⟩
   refine Rk 3 7 ((tI 7 x24.2.2)::(tI 6 x24.2.1)::(tS 5 g x24.1.length i)::(KP a_lanes lanes c_lanes)) d5 ay fun fq d6=>?_
   refine wf (XT (Aa (Rk 0 1 ((tA 29 (H9 b y e d f))::(tI 7 x24.2.2)::(tI 6 x24.2.1)::(tS 5 g x24.1.length i)::(KP a_lanes lanes c_lanes)) d6 ay fun fr d7=>?_)))
   obtain⟨x30,ex30,H⟩:=Ap H
   refine wl fun K hK=>?_
   refine wc [.agg (H9 b y e d f)] d7 ay (C6 n ay.has y ((Ab (Ae l) (Ab (Ae m) Ad)):rep cu y _) ex30) fun f2 ey gi cs aw bc=>?_
   replace hr_lanes:=hr_lanes.mono (XU (XU ba bb) aw)
   obtain⟨_,rfl,⟨_,_,rfl,⟨s,x,rfl,be⟩,⟨_,_,rfl,⟨u,z,rfl,bf⟩,rfl⟩⟩⟩:=cs
   refine⟨.one (.agg (Sj s x30 x u z)),rfl,fun er (d8:Kn 75 [(a,0)] ((tA 30 (Sj s x30 x u z))::(tA 29 (H9 b y e d f))::(tI 7 x24.2.2)::(tI 6 x24.2.1)::(tS 5 g x24.1.length i)::(KP a_lanes lanes c_lanes)) er)=>hK _ _ ?_⟩
   refine Rk 2 1 [tS 31 a_lanes lanes.length c_lanes,tA 30 (Sj s x30 x u z),tI 7 x24.2.2,tI 6 x24.2.1,tS 5 g x24.1.length i,tP 2 0 0] d8 bc fun fs d9=>?_
   obtain⟨x32,ex32,H⟩:=Ap H
   refine wl fun K hK=>?_
   refine wc [.c (.slice a_lanes lanes.length c_lanes)] d9 bc (BB n bc.has lanes hr_lanes ex32) fun f3 cv f4 ci aj b2=>?_
   replace be:=be.mono aj
   replace bf:=bf.mono aj
   obtain⟨am,ap,rfl,ec⟩:=ci
   refine⟨.one (.c (.slice am x32.length ap)),rfl,fun ef (cx:Kn 75 [(a,0)] [tS 32 am x32.length ap,tS 31 a_lanes lanes.length c_lanes,tA 30 (Sj s x30 x u z),tI 7 x24.2.2,tI 6 x24.2.1,tS 5 g x24.1.length i,tP 2 0 0] ef)=>hK _ _ ?_⟩
   obtain⟨x33,ex33,H⟩:=Ap H
   refine wl fun K hK=>?_
   refine wc [.agg (Sj s x30 x u z),.c (.slice am x32.length ap)] cx b2 (G5 n b2.has x30 ((Ab (Ae be) (Ab (Ae bf) Ad)):rep cv x30 _) x32 ec ex33) fun ft az f5 cj a8 j=>?_
   replace l:=l.mono (XU (XU aw aj) a8)
   replace m:=m.mono (XU (XU aw aj) a8)
   replace bd:=bd.mono (XU (XU aw aj) a8)
   obtain⟨_,_,_,_,rfl,⟨bk,bm,rfl,e3⟩,⟨bl,bn,rfl,e4⟩,rfl,rfl⟩:=cj
   refine⟨.tup [.c (.slice bk x33.1.length bm),.c (.slice bl x33.2.1.length bn),.c (.int .i64 x33.2.2.1),.c (.int .i64 x33.2.2.2)],rfl,fun eg (cy:Kn 75 [(a,0)] [(33,.tup [.c (.slice bk x33.1.length bm),.c (.slice bl x33.2.1.length bn),.c (.int .i64 x33.2.2.1),.c (.int .i64 x33.2.2.2)]),tS 32 am x32.length ap,tS 31 a_lanes lanes.length c_lanes,tA 30 (Sj s x30 x u z),tI 7 x24.2.2,tI 6 x24.2.1,tS 5 g x24.1.length i,tP 2 0 0] eg)=>hK _ _ ?_⟩
   refine Rk 5 9 [tI 11 x33.2.2.2,tI 10 x33.2.2.1,tI 7 x24.2.2,tI 6 x24.2.1,tS 5 g x24.1.length i,tP 2 0 0] cy j fun e6 cz=>?_
   refine wf (XT (XT (Aa (Rk 0 2 [tB 39 (x24.2.2 != 0),tI 11 x33.2.2.2,tI 10 x33.2.2.1,tI 7 x24.2.2,tI 6 x24.2.1,tS 5 g x24.1.length i,tP 2 0 0] cz j fun e7 a5=>?_))))
   refine wf (wC ((x24.2.2 != 0)) a5 (fun a2=>?_) (fun a2=>?_))
   ·
    rw [a2,XW] at H
    refine XT ?_
    obtain⟨b8,q,H⟩:=Ap H
    refine Au (fun a' w'=>∃ (bh:Array Value)(a0:Ac),a' = ⟨bh,[]⟩∧Kn 75 [(a,0)] [tB 4 b8] bh∧Al ⟨w,h,AT⟩ a0 [(a,0)] [⟨H9 b y e d f,some 25⟩] [] w'∧Ac.le az a0) ?_ ?_
    ·
     refine Aa (Rk 0 3 [tB 42 (x24.2.2 == 9),tI 11 x33.2.2.2] a5 j fun ca bo=>?_)
     rcases Bool.eq_false_or_eq_true ((x24.2.2 == 9)) with ab | ab
     ·
      rw [ab,XW] at q
      have c1:Kn 75 [(a,0)] [tB 42 true,tI 11 x33.2.2.2] ca:=(bo.setB 42 true (by rfl) ab).kp
      refine Rk 3 4 [tB 46 (x33.2.2.2 == 2)] c1 j fun cb bp=>?_
      rcases Bool.eq_false_or_eq_true ((x33.2.2.2 == 2)) with ac | ac
      ·
       rw [ac,XW] at q
       have bq:Kn 75 [(a,0)] [tB 46 true] cb:=(bp.setB 46 true (by rfl) ac).kp
       obtain⟨x47,ex47,q⟩:=Ap q
       refine Aw _ rfl (Aj bq (by kernel_rfl)) fun K hK=>?_
       refine wc [] bq j (Ds n j.has  ex47) fun fu es f6 ck ea b3=>?_
       obtain rfl:=ck
       refine⟨.one (.c (.bool x47)),rfl,fun eh (c2:Kn 75 [(a,0)] [tB 47 x47,tB 46 true] eh)=>hK _ _ ?_⟩
       refine Rk 8 2 [tB 4 x47] c2 b3 fun e8 c3=>?_
       refine wf ?_
       obtain rfl:=XZ q
       exact XY _ ⟨_,rfl,c3.kp,b3,ea⟩
      ·
       rw [ac,XV] at q
       have c4:Kn 75 [(a,0)] [tB 46 false] cb:=(bp.setB 46 false (by rfl) ac).kp
       refine Rk 7 3 [tB 4 false] c4 j fun e9 c5=>?_
       refine wf ?_
       obtain rfl:=XZ q
       exact XY _ ⟨_,rfl,c5.kp,j,Ac.le_refl _⟩
     ·
      rw [ab,XV] at q
      have c6:Kn 75 [(a,0)] [tB 42 false,tI 11 x33.2.2.2] ca:=(bo.setB 42 false (by rfl) ab).kp
      refine Rk 3 7 [tB 4 false] c6 j fun fa c7=>?_
      refine wf ?_
      obtain rfl:=XZ q
      exact XY _ ⟨_,rfl,c7.kp,j,Ac.le_refl _⟩
    ·
     rintro _ f7 ⟨bh,a0,rfl,c8,eb,ez⟩
     refine wp_ret ?_
     obtain rfl:=XZ H
     exact rt (.one (.c (.bool b8))) c8 eb rfl
   ·
    rw [a2,XV] at H
    refine wp_skip (XT (XT ?_))
    obtain⟨b9,k,H⟩:=Ap H
    refine Au (fun a' w'=>∃ (bj:Array Value)(a1:Ac),a' = ⟨bj,[]⟩∧Kn 75 [(a,0)] [tI 11 x33.2.2.2,tI 10 x33.2.2.1,tI 6 x24.2.1,tB 64 b9] bj∧Al ⟨w,h,AT⟩ a1 [(a,0)] [⟨H9 b y e d f,some 25⟩] [] w'∧Ac.le az a1) ?_ ?_
    ·
     refine Aa (Rk 0 2 ((tS 50 g x24.1.length i)::(tA 49 (H9 b y e d f))::(JO x33 x24)) a5 j fun fb c9=>?_)
     obtain⟨x51,ex51,k⟩:=Ap k
     refine wl fun K hK=>?_
     refine wc [.agg (H9 b y e d f),.c (.slice g x24.1.length i)] c9 j (N8 n j.has y ((Ab (Ae l) (Ab (Ae m) Ad)):rep az y _) x24.1 bd ex51) fun fv et f8 cl av o=>?_
     obtain rfl:=cl
     refine⟨.one (.c (.bool x51)),rfl,fun ei (da:Kn 75 [(a,0)] ((tB 51 x51)::(tS 50 g x24.1.length i)::(tA 49 (H9 b y e d f))::(JO x33 x24)) ei)=>hK _ _ ?_⟩
     refine Rk 3 2 ((tB 53 (!x51))::(JO x33 x24)) da o fun cc br=>?_
     rcases Bool.eq_false_or_eq_true ((!x51)) with ad | ad
     ·
      rw [ad,XW] at k
      have db:Kn 75 [(a,0)] ((tB 53 true)::(JO x33 x24)) cc:=(br.setB 53 true (by rfl) ad).kp
      refine Rk 5 11 ((tB 64 true)::(JO x33 x24)) db o fun fd dc=>?_
      refine wf ?_
      obtain rfl:=XZ k
      exact XY _ ⟨_,rfl,dc.kp,o,av⟩
     ·
      rw [ad,XV] at k
      have dd:Kn 75 [(a,0)] ((tB 53 false)::(JO x33 x24)) cc:=(br.setB 53 false (by rfl) ad).kp
      refine Rk 5 4 ((tB 57 (decide (x24.2.1<0)))::(JO x33 x24)) dd o fun cd bs=>?_
      rcases Bool.eq_false_or_eq_true (decide (x24.2.1<0)) with ae | ae
      ·
       rw [ae,XW] at k
       have df:Kn 75 [(a,0)] ((tB 57 true)::(JO x33 x24)) cd:=(bs.setB 57 true (by rfl) ae).kp
       refine Rk 9 7 ((tB 64 true)::(JO x33 x24)) df o fun fe dg=>?_
       refine wf ?_
       obtain rfl:=XZ k
       exact XY _ ⟨_,rfl,dg.kp,o,av⟩
      ·
       rw [ae,XV] at k
       have dh:Kn 75 [(a,0)] ((tB 57 false)::(JO x33 x24)) cd:=(bs.setB 57 false (by rfl) ae).kp
       refine Rk 9 3 ((tB 60 (x33.2.2.2 != 0))::(tB 57 false)::(JO x33 x24)) dh o fun ce bt=>?_
       rcases Bool.eq_false_or_eq_true ((x33.2.2.2 != 0)) with af | af
       ·
        rw [af,XW] at k
        have di:Kn 75 [(a,0)] ((tB 60 true)::(tB 57 false)::(JO x33 x24)) ce:=(bt.setB 60 true (by rfl) af).kp
        refine Rk 12 4 ((tB 64 (x33.2.2.2 != 2))::(JO x33 x24)) di o fun ff dj=>?_
        refine wf ?_
        obtain rfl:=XZ k
        exact XY _ ⟨_,rfl,dj.kp,o,av⟩
       ·
        rw [af,XV] at k
        have dk:Kn 75 [(a,0)] ((tB 60 false)::(tB 57 false)::(JO x33 x24)) ce:=(bt.setB 60 false (by rfl) af).kp
        refine Rk 12 4 ((tB 64 false)::(JO x33 x24)) dk o fun fg dl=>?_
        refine wf ?_
        obtain rfl:=XZ k
        exact XY _ ⟨_,rfl,dl.kp,o,av⟩
    ·
     rintro _ f9 ⟨bj,a1,rfl,a6,p,b0⟩
     replace l:=l.mono b0
     replace m:=m.mono b0
     refine wC (b9) a6 (fun a3=>?_) (fun a3=>?_)
     ·
      rw [B7 a3] at H
      refine XT (Aa (Rk 0 1 [tB 4 false] a6 p fun fh dm=>?_))
      refine wf (wp_ret ?_)
      obtain rfl:=XZ H
      exact rt (.one (.c (.bool false))) dm p rfl
     ·
      rw [B8 a3] at H
      refine wp_skip (XT (Aa (Rk 0 3 [tB 67 (x33.2.2.2 != 0),tI 10 x33.2.2.1,tI 6 x24.2.1] a6 p fun cf bu=>?_)))
      rcases Bool.eq_false_or_eq_true ((x33.2.2.2 != 0)) with ag | ag
      ·
       rw [ag,XW] at H
       have dn:Kn 75 [(a,0)] [tB 67 true,tI 10 x33.2.2.1,tI 6 x24.2.1] cf:=(bu.setB 67 true (by rfl) ag).kp
       refine Rk 3 5 [tB 72 true] dn p fun fi bv=>?_
       obtain⟨x73,ex73,H⟩:=Ap H
       refine Aw _ rfl (Aj bv (by kernel_rfl)) fun K hK=>?_
       refine wc [] bv p (Ds n p.has  ex73) fun fx ev gb cm e0 b4=>?_
       obtain rfl:=cm
       refine⟨.one (.c (.bool x73)),rfl,fun ej (dp:Kn 75 [(a,0)] [tB 73 x73,tB 72 true] ej)=>hK _ _ ?_⟩
       refine Rk 9 2 [tB 4 x73] dp b4 fun fj dq=>?_
       refine wf (wp_ret ?_)
       obtain rfl:=XZ H
       exact rt (.one (.c (.bool x73))) dq b4 rfl
      ·
       rw [ag,XV] at H
       have dr:Kn 75 [(a,0)] [tB 67 false,tI 10 x33.2.2.1,tI 6 x24.2.1] cf:=(bu.setB 67 false (by rfl) ag).kp
       refine Rk 3 5 [tB 72 (decide (x33.2.2.1≥x24.2.1))] dr p fun cg bw=>?_
       rcases Bool.eq_false_or_eq_true (decide (x33.2.2.1≥x24.2.1)) with ah | ah
       ·
        rw [ah,XW] at H
        have bx:Kn 75 [(a,0)] [tB 72 true] cg:=(bw.setB 72 true (by rfl) ah).kp
        obtain⟨x73,ex73,H⟩:=Ap H
        refine Aw _ rfl (Aj bx (by kernel_rfl)) fun K hK=>?_
        refine wc [] bx p (Ds n p.has  ex73) fun fy ew gc co e1 b5=>?_
        obtain rfl:=co
        refine⟨.one (.c (.bool x73)),rfl,fun ek (ds:Kn 75 [(a,0)] [tB 73 x73,tB 72 true] ek)=>hK _ _ ?_⟩
        refine Rk 9 2 [tB 4 x73] ds b5 fun fk dt=>?_
        refine wf (wp_ret ?_)
        obtain rfl:=XZ H
        exact rt (.one (.c (.bool x73))) dt b5 rfl
       ·
        rw [ah,XV] at H
        have du:Kn 75 [(a,0)] [tB 72 false] cg:=(bw.setB 72 false (by rfl) ah).kp
        refine Rk 8 3 [tB 4 false] du p fun fl dv=>?_
        refine wf (wp_ret ?_)
        obtain rfl:=XZ H
        exact rt (.one (.c (.bool false))) dv p rfl
abbrev AA (l:Option Addr) (y:Ag) (o:Nat) (m:Option Addr) (p:Nat):List SC:=[.slice l y.room.length o,.slice m y.buses.length p,.int .i64 y.broken]
abbrev O8 (bl:Option Addr) (x59:Ag) (bt:Nat) (bm:Option Addr) (bu:Nat):List SC:=[.slice bl x59.room.length bt,.slice bm x59.buses.length bu,.int .i64 x59.broken]
abbrev O9 (bn:Option Addr) (x59:Ag) (bv:Nat) (bo:Option Addr) (bw:Nat):List SC:=[.slice bn x59.room.length bv,.slice bo x59.buses.length bw,.int .i64 x59.broken]
abbrev QB (b5:Option Addr) (x77:Ag) (b7:Nat) (b6:Option Addr) (b8:Nat):List SC:=[.slice b5 x77.room.length b7,.slice b6 x77.buses.length b8,.int .i64 x77.broken]
abbrev NA (a3:Option Addr) (x89:Ag) (ba:Nat) (a4:Option Addr) (bb:Nat):List SC:=[.slice a3 x89.room.length ba,.slice a4 x89.buses.length bb,.int .i64 x89.broken]
abbrev OA (bp:Option Addr) (x129:Ag) (bx:Nat) (bq:Option Addr) (bz:Nat):List SC:=[.slice bp x129.room.length bx,.slice bq x129.buses.length bz,.int .i64 x129.broken]
abbrev OB (br:Option Addr) (x129:Ag) (b0:Nat) (bs:Option Addr) (b1:Nat):List SC:=[.slice br x129.room.length b0,.slice bs x129.buses.length b1,.int .i64 x129.broken]
abbrev NB (a6:Option Addr) (x143:Ag) (bd:Nat) (a7:Option Addr) (be:Nat):List SC:=[.slice a6 x143.room.length bd,.slice a7 x143.buses.length be,.int .i64 x143.broken]
abbrev AQ (x82:(List Int)×(List Int)×Int×Int) (i:Option Addr) (k:Nat) (f:Option Addr) (g:Nat) (x_v10:Int) (x35:(List Int)×Int×Int) (d:Option Addr) (x31:List Int) (e:Nat) (a:Option Addr) (x28:List Int) (b:Nat):TM:=[tI 16 x82.2.2.1,tS 15 i x82.2.1.length k,tS 14 f x82.1.length g,tI 13 x_v10,tP 12 1 0,tI 8 x35.2.1,tS 6 d x31.length e,tS 5 a x28.length b,tP 2 0 0]
abbrev Bt (d:Option Addr) (x31:List Int) (e:Nat) (a:Option Addr) (x28:List Int) (b:Nat):TM:=[tS 6 d x31.length e,tS 5 a x28.length b,tP 2 0 0]
abbrev DS (x42:(List Int)×Bool) (aa:Option Addr) (ab:Nat) (x35:(List Int)×Int×Int) (u:Option Addr) (x:Nat) (d:Option Addr) (x31:List Int) (e:Nat) (a:Option Addr) (x28:List Int) (b:Nat):TM:=(tB 11 x42.2)::(tS 10 aa x42.1.length ab)::(tI 8 x35.2.1)::(tS 7 u x35.1.length x)::(Bt d x31 e a x28 b)
set_option maxRecDepth 100000 in
set_option maxHeartbeats 4000000 in
theorem Lr (n:Nat) {h:Ac} {w:World} (hh:D7 h w) (y:Ag) {cs_y:List Value} (hx_y:rep h y cs_y) (words:List (IK .u16)) {a_words:Option Addr} {c_words:Nat} (hr_words:A6 h a_words c_words words) {r:Bool} (H:EY n y words=some r) :
  Calls Try.prog 10 #[.agg cs_y.toArray,.slice a_words words.length c_words] w (DA (fun h v=>v=.bool r) h w):=by
 obtain⟨_,_,rfl,⟨l,o,rfl,ac⟩,⟨_,_,rfl,⟨m,p,rfl,ad⟩,rfl⟩⟩:=hx_y
 refine enter 164 [.agg (AA l y o m p),.c (.slice a_words words.length c_words)] Try.func10 rfl rfl rfl rfl fun t hk=>?_
 have hm:=Al.begin h w hh
 unfold EY at H
 refine XT (Aa (wl fun K hK=>?_))
 refine wb (.agg (AA l y o m p)) hk hm fun j ob sw (jg:Kn 164 [(j,0)] [tP 2 0 0,tA 0 (AA l y o m p),tS 1 a_words words.length c_words] ob) dy=>hK _ _ ?_
 refine Rk 1 1 [tP 2 0 0,tS 1 a_words words.length c_words] jg dy fun o7 jq=>?_
 refine wf (XT (XT (Aa (Rk 0 1 [tA 22 (AA l y o m p),tP 2 0 0,tS 1 a_words words.length c_words] jq dy fun pa js=>?_))))
 obtain⟨x23,ex23,H⟩:=Ap H
 refine wl fun K hK=>?_
 refine wc [.agg (AA l y o m p)] js dy (KN n dy.has y ((Ab (Ae ac) (Ab (Ae ad) Ad)):rep h y _) ex23) fun qr iz rs hy eh b4=>?_
 replace ac:=ac.mono eh
 replace ad:=ad.mono eh
 replace hr_words:=hr_words.mono eh
 obtain rfl:=hy
 refine⟨.one (.c (.bool x23)),rfl,fun nb (j3:Kn 164 [(j,0)] [tB 23 x23,tA 22 (AA l y o m p),tP 2 0 0,tS 1 a_words words.length c_words] nb)=>hK _ _ ?_⟩
 refine Rk 2 1 [tB 24 (!x23),tP 2 0 0,tS 1 a_words words.length c_words] j3 b4 fun pl eb=>?_
 refine wf (wC ((!x23)) eb (fun d6=>?_) (fun d6=>?_))
 ·
  rw [d6,XW] at H
  refine XT (Aa ?_)
  obtain⟨x25,ex25,H⟩:=Ap H
  refine wl fun K hK=>?_
  refine wc [] eb b4 (Ds n b4.has  ex25) fun qw ok r4 h4 o0 gy=>?_
  obtain rfl:=h4
  refine⟨.one (.c (.bool x25)),rfl,fun nl (kg:Kn 164 [(j,0)] [tB 25 x25,tB 24 (!x23),tP 2 0 0,tS 1 a_words words.length c_words] nl)=>hK _ _ ?_⟩
  refine Rk 1 1 [tB 4 x25] kg gy fun pr kj=>?_
  refine wf (wp_ret ?_)
  obtain rfl:=XZ H
  exact rt (.one (.c (.bool x25))) kj gy rfl
 ·
  rw [d6,XV] at H
  refine wp_skip (XT (Ax (by kernel_rfl) ?_))
  replace b4:=b4.drew
  refine A5 [] [(j,0)] [⟨AA l y o m p,some 25⟩] ?_
  refine Dr [0,1,3,4] [4,3,1,0] [tS 30 a_words words.length c_words,tA 29 (AA l y o m p),tS 27 a_words words.length c_words,tA 26 (AA l y o m p),tP 2 0 0,tS 1 a_words words.length c_words] eb b4 fun ps km=>?_
  obtain⟨x28,ex28,H⟩:=Ap H
  refine Dl 2 fun K hK=>?_
  refine wc [.agg (AA l y o m p),.c (.slice a_words words.length c_words)] km b4 (Q9 n b4.has y ((Ab (Ae ac) (Ab (Ae ad) Ad)):rep iz y _) words hr_words ex28) fun q5 i4 sb ia ei et=>?_
  replace ac:=ac.mono ei
  replace ad:=ad.mono ei
  replace hr_words:=hr_words.mono ei
  obtain⟨a,b,rfl,ag⟩:=ia
  refine⟨.one (.c (.slice a x28.length b)),rfl,fun nv (lg:Kn 164 [(j,0)] [tS 28 a x28.length b,tS 30 a_words words.length c_words,tA 29 (AA l y o m p),tS 27 a_words words.length c_words,tA 26 (AA l y o m p),tP 2 0 0,tS 1 a_words words.length c_words] nv)=>hK _ _ et.plOk ?_⟩
  obtain⟨x31,ex31,H⟩:=Ap H
  refine Dl 5 fun K hK=>?_
  refine wc [.agg (AA l y o m p),.c (.slice a_words words.length c_words)] lg et (QA n et.has y ((Ab (Ae ac) (Ab (Ae ad) Ad)):rep i4 y _) words hr_words ex31) fun rb i7 si ik dw da=>?_
  replace ac:=ac.mono dw
  replace ad:=ad.mono dw
  obtain⟨d,e,rfl,al⟩:=ik
  refine⟨.one (.c (.slice d x31.length e)),rfl,fun n4 (lw:Kn 164 [(j,0)] [tS 31 d x31.length e,tS 28 a x28.length b,tS 30 a_words words.length c_words,tA 29 (AA l y o m p),tS 27 a_words words.length c_words,tA 26 (AA l y o m p),tP 2 0 0,tS 1 a_words words.length c_words] n4)=>hK _ _ da.plOk ?_⟩
  refine Dr [6,7] [7,6,5,2,4,3,1,0] [tS 6 d x31.length e,tS 5 a x28.length b,tP 2 0 0,tS 1 a_words words.length c_words] lw da fun qd lz=>?_
  refine AU (by kernel_rfl) (XT (Aa (Rk 0 1 [tA 33 (AA l y o m p),tS 6 d x31.length e,tS 5 a x28.length b,tP 2 0 0,tS 1 a_words words.length c_words] lz da fun qf l5=>?_)))
  obtain⟨x34,ex34,H⟩:=Ap H
  refine wl fun K hK=>?_
  refine wc [.agg (AA l y o m p)] l5 da (C6 n da.has y ((Ab (Ae ac) (Ab (Ae ad) Ad)):rep i7 y _) ex34) fun rk jb su iv c7 g5=>?_
  obtain⟨_,rfl,⟨_,_,rfl,⟨di,ds,rfl,my⟩,⟨_,_,rfl,⟨dj,dt,rfl,mz⟩,rfl⟩⟩⟩:=iv
  refine⟨.one (.agg [.slice di x34.room.length ds,.slice dj x34.buses.length dt,.int .i64 x34.broken]),rfl,fun oa (mb:Kn 164 [(j,0)] [tA 34 [.slice di x34.room.length ds,.slice dj x34.buses.length dt,.int .i64 x34.broken],tA 33 (AA l y o m p),tS 6 d x31.length e,tS 5 a x28.length b,tP 2 0 0,tS 1 a_words words.length c_words] oa)=>hK _ _ ?_⟩
  obtain⟨x35,ex35,H⟩:=Ap H
  refine wl fun K hK=>?_
  refine wc [.agg [.slice di x34.room.length ds,.slice dj x34.buses.length dt,.int .i64 x34.broken]] mb g5 (H7 n g5.has x34 ((Ab (Ae my) (Ab (Ae mz) Ad)):rep jb x34 _) ex35) fun rm jc sv iw c8 dz=>?_
  replace ac:=ac.mono (XU c7 c8)
  replace ad:=ad.mono (XU c7 c8)
  replace hr_words:=hr_words.mono (XU (XU dw c7) c8)
  obtain⟨_,_,_,rfl,⟨u,x,rfl,ai⟩,rfl,rfl⟩:=iw
  refine⟨.tup [.c (.slice u x35.1.length x),.c (.int .i64 x35.2.1),.c (.int .i64 x35.2.2)],rfl,fun oc (mc:Kn 164 [(j,0)] [(35,.tup [.c (.slice u x35.1.length x),.c (.int .i64 x35.2.1),.c (.int .i64 x35.2.2)]),tA 34 [.slice di x34.room.length ds,.slice dj x34.buses.length dt,.int .i64 x34.broken],tA 33 (AA l y o m p),tS 6 d x31.length e,tS 5 a x28.length b,tP 2 0 0,tS 1 a_words words.length c_words] oc)=>hK _ _ ?_⟩
  refine Rk 3 7 [tI 9 x35.2.2,tI 8 x35.2.1,tS 7 u x35.1.length x,tS 6 d x31.length e,tS 5 a x28.length b,tP 2 0 0,tS 1 a_words words.length c_words] mc dz fun qm md=>?_
  refine wf (XT (Aa (Rk 0 2 ((tS 41 a_words words.length c_words)::(tA 40 (AA l y o m p))::(tI 9 x35.2.2)::(tI 8 x35.2.1)::(tS 7 u x35.1.length x)::(Bt d x31 e a x28 b)) md dz fun qn me=>?_)))
  obtain⟨x42,ex42,H⟩:=Ap H
  refine wl fun K hK=>?_
  refine wc [.agg (AA l y o m p),.c (.slice a_words words.length c_words)] me dz (NN n dz.has y ((Ab (Ae ac) (Ab (Ae ad) Ad)):rep jc y _) words hr_words ex42) fun rn d2 sx ix c9 am=>?_
  replace ac:=ac.mono c9
  replace ad:=ad.mono c9
  replace ag:=ag.mono (XU (XU (XU dw c7) c8) c9)
  replace al:=al.mono (XU (XU c7 c8) c9)
  replace ai:=ai.mono c9
  obtain⟨_,_,rfl,⟨aa,ab,rfl,aj⟩,rfl⟩:=ix
  refine⟨.tup [.c (.slice aa x42.1.length ab),.c (.bool x42.2)],rfl,fun m4 (jh:Kn 164 [(j,0)] ((42,.tup [.c (.slice aa x42.1.length ab),.c (.bool x42.2)])::(tS 41 a_words words.length c_words)::(tA 40 (AA l y o m p))::(tI 9 x35.2.2)::(tI 8 x35.2.1)::(tS 7 u x35.1.length x)::(Bt d x31 e a x28 b)) m4)=>hK _ _ ?_⟩
  refine Rk 3 5 ((tB 11 x42.2)::(tS 10 aa x42.1.length ab)::(tI 9 x35.2.2)::(tI 8 x35.2.1)::(tS 7 u x35.1.length x)::(Bt d x31 e a x28 b)) jh am fun o5 ji=>?_
  refine wf (XT (XT ?_))
  obtain⟨g6,ah,H⟩:=Ap H
  refine Au (fun a' w'=>∃ (fk:Array Value)(cq:Ac),a' = ⟨fk,[]⟩∧Kn 164 [(j,0)] [tB 11 x42.2,tS 10 aa x42.1.length ab,tI 8 x35.2.1,tS 7 u x35.1.length x,tS 6 d x31.length e,tS 5 a x28.length b,tP 2 0 0,tB 64 g6] fk∧Al ⟨w,h,AT⟩ cq [(j,0)] [⟨AA l y o m p,some 25⟩] [] w'∧Ac.le d2 cq) ?_ ?_
  ·
   refine Aa (Rk 0 5 ((tB 49 (!((x35.2.2 == 0) == x42.2)))::(tB 11 x42.2)::(tS 10 aa x42.1.length ab)::(tI 9 x35.2.2)::(tI 8 x35.2.1)::(tS 7 u x35.1.length x)::(Bt d x31 e a x28 b)) ji am fun ha fp=>?_)
   rcases Bool.eq_false_or_eq_true ((!((x35.2.2 == 0) == x42.2))) with cr | cr
   ·
    rw [cr,XW] at ah
    have jj:Kn 164 [(j,0)] ((tB 49 true)::(tB 11 x42.2)::(tS 10 aa x42.1.length ab)::(tI 9 x35.2.2)::(tI 8 x35.2.1)::(tS 7 u x35.1.length x)::(Bt d x31 e a x28 b)) ha:=(fp.setB 49 true (by rfl) cr).kp
    refine Rk 5 15 ((tB 64 true)::(DS x42 aa ab x35 u x d x31 e a x28 b)) jj am fun o6 jk=>?_
    refine wf ?_
    obtain rfl:=XZ ah
    exact XY _ ⟨_,rfl,jk.kp,am,Ac.le_refl _⟩
   ·
    rw [cr,XV] at ah
    have jl:Kn 164 [(j,0)] ((tB 49 false)::(tB 11 x42.2)::(tS 10 aa x42.1.length ab)::(tI 9 x35.2.2)::(tI 8 x35.2.1)::(tS 7 u x35.1.length x)::(Bt d x31 e a x28 b)) ha:=(fp.setB 49 false (by rfl) cr).kp
    refine Rk 5 3 ((tB 52 (x35.2.2 != 0))::(tB 49 false)::(tB 11 x42.2)::(tS 10 aa x42.1.length ab)::(tI 9 x35.2.2)::(tI 8 x35.2.1)::(tS 7 u x35.1.length x)::(Bt d x31 e a x28 b)) jl am fun hc fq=>?_
    rcases Bool.eq_false_or_eq_true ((x35.2.2 != 0)) with cs | cs
    ·
     rw [cs,XW] at ah
     have jm:Kn 164 [(j,0)] ((tB 52 true)::(tB 49 false)::(tB 11 x42.2)::(tS 10 aa x42.1.length ab)::(tI 9 x35.2.2)::(tI 8 x35.2.1)::(tS 7 u x35.1.length x)::(Bt d x31 e a x28 b)) hc:=(fq.setB 52 true (by rfl) cs).kp
     refine Rk 8 5 ((tB 57 (x35.2.2 != 9))::(DS x42 aa ab x35 u x d x31 e a x28 b)) jm am fun hd fr=>?_
     rcases Bool.eq_false_or_eq_true ((x35.2.2 != 9)) with ct | ct
     ·
      rw [ct,XW] at ah
      have jn:Kn 164 [(j,0)] ((tB 57 true)::(DS x42 aa ab x35 u x d x31 e a x28 b)) hd:=(fr.setB 57 true (by rfl) ct).kp
      refine Rk 13 7 ((tB 64 true)::(DS x42 aa ab x35 u x d x31 e a x28 b)) jn am fun o8 jo=>?_
      refine wf ?_
      obtain rfl:=XZ ah
      exact XY _ ⟨_,rfl,jo.kp,am,Ac.le_refl _⟩
     ·
      rw [ct,XV] at ah
      have jp:Kn 164 [(j,0)] ((tB 57 false)::(DS x42 aa ab x35 u x d x31 e a x28 b)) hd:=(fr.setB 57 false (by rfl) ct).kp
      refine Rk 13 1 ((tA 58 (AA l y o m p))::(tB 57 false)::(DS x42 aa ab x35 u x d x31 e a x28 b)) jp am fun o9 fs=>?_
      obtain⟨x59,ex59,ah⟩:=Ap ah
      refine Aw _ rfl (Aj fs (by kernel_rfl)) fun K hK=>?_
      refine wc [.agg (AA l y o m p)] fs am (C6 n am.has y ((Ab (Ae ac) (Ab (Ae ad) Ad)):rep d2 y _) ex59) fun qo od ro hs gp ej=>?_
      replace ag:=ag.mono gp
      obtain⟨_,rfl,⟨_,_,rfl,⟨bl,bt,rfl,ez⟩,⟨_,_,rfl,⟨bm,bu,rfl,e0⟩,rfl⟩⟩⟩:=hs
      refine⟨.one (.agg (O8 bl x59 bt bm bu)),rfl,fun m5 (jr:Kn 164 [(j,0)] ((tA 59 (O8 bl x59 bt bm bu))::(tA 58 (AA l y o m p))::(tB 57 false)::(DS x42 aa ab x35 u x d x31 e a x28 b)) m5)=>hK _ _ ?_⟩
      refine Rk 15 1 ((tS 60 a x28.length b)::(tA 59 (O8 bl x59 bt bm bu))::(tB 57 false)::(DS x42 aa ab x35 u x d x31 e a x28 b)) jr ej fun pb ft=>?_
      obtain⟨x61,ex61,ah⟩:=Ap ah
      refine Aw _ rfl (Aj ft (by kernel_rfl)) fun K hK=>?_
      refine wc [.c (.slice a x28.length b)] ft ej (BB n ej.has x28 ag ex61) fun qp iy rp ht ef gr=>?_
      replace ez:=ez.mono ef
      replace e0:=e0.mono ef
      obtain⟨db,dk,rfl,mr⟩:=ht
      refine⟨.one (.c (.slice db x61.length dk)),rfl,fun m6 (fu:Kn 164 [(j,0)] ((tS 61 db x61.length dk)::(tS 60 a x28.length b)::(tA 59 (O8 bl x59 bt bm bu))::(tB 57 false)::(DS x42 aa ab x35 u x d x31 e a x28 b)) m6)=>hK _ _ ?_⟩
      obtain⟨x62,ex62,ah⟩:=Ap ah
      refine Aw _ rfl (Aj fu (by kernel_rfl)) fun K hK=>?_
      refine wc [.agg (O8 bl x59 bt bm bu),.c (.slice db x61.length dk)] fu gr (Dt n gr.has x59 ((Ab (Ae ez) (Ab (Ae e0) Ad)):rep iy x59 _) x61 mr ex62) fun qq oe rq hu mf gs=>?_
      obtain rfl:=hu
      refine⟨.one (.c (.bool x62)),rfl,fun m7 (jt:Kn 164 [(j,0)] ((tB 62 x62)::(tS 61 db x61.length dk)::(tS 60 a x28.length b)::(tA 59 (O8 bl x59 bt bm bu))::(tB 57 false)::(DS x42 aa ab x35 u x d x31 e a x28 b)) m7)=>hK _ _ ?_⟩
      refine Rk 18 2 ((tB 64 (!x62))::(DS x42 aa ab x35 u x d x31 e a x28 b)) jt gs fun pc ju=>?_
      refine wf ?_
      obtain rfl:=XZ ah
      exact XY _ ⟨_,rfl,ju.kp,gs,XU gp (XU ef mf)⟩
    ·
     rw [cs,XV] at ah
     have jv:Kn 164 [(j,0)] ((tB 52 false)::(tB 49 false)::(tB 11 x42.2)::(tS 10 aa x42.1.length ab)::(tI 9 x35.2.2)::(tI 8 x35.2.1)::(tS 7 u x35.1.length x)::(Bt d x31 e a x28 b)) hc:=(fq.setB 52 false (by rfl) cs).kp
     refine Rk 8 6 ((tA 58 (AA l y o m p))::(tB 57 false)::(DS x42 aa ab x35 u x d x31 e a x28 b)) jv am fun pd fv=>?_
     obtain⟨x59,ex59,ah⟩:=Ap ah
     refine Aw _ rfl (Aj fv (by kernel_rfl)) fun K hK=>?_
     refine wc [.agg (AA l y o m p)] fv am (C6 n am.has y ((Ab (Ae ac) (Ab (Ae ad) Ad)):rep d2 y _) ex59) fun qs og rr hv gq ek=>?_
     replace ag:=ag.mono gq
     obtain⟨_,rfl,⟨_,_,rfl,⟨bn,bv,rfl,e1⟩,⟨_,_,rfl,⟨bo,bw,rfl,e2⟩,rfl⟩⟩⟩:=hv
     refine⟨.one (.agg (O9 bn x59 bv bo bw)),rfl,fun m8 (jw:Kn 164 [(j,0)] ((tA 59 (O9 bn x59 bv bo bw))::(tA 58 (AA l y o m p))::(tB 57 false)::(DS x42 aa ab x35 u x d x31 e a x28 b)) m8)=>hK _ _ ?_⟩
     refine Rk 15 1 ((tS 60 a x28.length b)::(tA 59 (O9 bn x59 bv bo bw))::(tB 57 false)::(DS x42 aa ab x35 u x d x31 e a x28 b)) jw ek fun pe fw=>?_
     obtain⟨x61,ex61,ah⟩:=Ap ah
     refine Aw _ rfl (Aj fw (by kernel_rfl)) fun K hK=>?_
     refine wc [.c (.slice a x28.length b)] fw ek (BB n ek.has x28 ag ex61) fun qt i0 ru hx eg gu=>?_
     replace e1:=e1.mono eg
     replace e2:=e2.mono eg
     obtain⟨dc,dl,rfl,ms⟩:=hx
     refine⟨.one (.c (.slice dc x61.length dl)),rfl,fun m9 (fx:Kn 164 [(j,0)] ((tS 61 dc x61.length dl)::(tS 60 a x28.length b)::(tA 59 (O9 bn x59 bv bo bw))::(tB 57 false)::(DS x42 aa ab x35 u x d x31 e a x28 b)) m9)=>hK _ _ ?_⟩
     obtain⟨x62,ex62,ah⟩:=Ap ah
     refine Aw _ rfl (Aj fx (by kernel_rfl)) fun K hK=>?_
     refine wc [.agg (O9 bn x59 bv bo bw),.c (.slice dc x61.length dl)] fx gu (Dt n gu.has x59 ((Ab (Ae e1) (Ab (Ae e2) Ad)):rep i0 x59 _) x61 ms ex62) fun qu oh rv hz mg gv=>?_
     obtain rfl:=hz
     refine⟨.one (.c (.bool x62)),rfl,fun na (jx:Kn 164 [(j,0)] ((tB 62 x62)::(tS 61 dc x61.length dl)::(tS 60 a x28.length b)::(tA 59 (O9 bn x59 bv bo bw))::(tB 57 false)::(DS x42 aa ab x35 u x d x31 e a x28 b)) na)=>hK _ _ ?_⟩
     refine Rk 18 2 ((tB 64 (!x62))::(DS x42 aa ab x35 u x d x31 e a x28 b)) jx gv fun pf jy=>?_
     refine wf ?_
     obtain rfl:=XZ ah
     exact XY _ ⟨_,rfl,jy.kp,gv,XU gq (XU eg mg)⟩
  ·
   rintro _ rx ⟨fk,cq,rfl,d9,ca,cj⟩
   replace ac:=ac.mono cj
   replace ad:=ad.mono cj
   replace ag:=ag.mono cj
   replace al:=al.mono cj
   replace ai:=ai.mono cj
   replace aj:=aj.mono cj
   refine wC (g6) d9 (fun d3=>?_) (fun d3=>?_)
   ·
    rw [B7 d3] at H
    refine XT (Aa (Rk 0 1 [tB 4 false] d9 ca fun pg jz=>?_))
    refine wf (wp_ret ?_)
    obtain rfl:=XZ H
    exact rt (.one (.c (.bool false))) jz ca rfl
   ·
    rw [B8 d3] at H
    refine wp_skip (XT (XT (Aa (Rk 0 2 ((tB 66 (!x42.2))::(tS 10 aa x42.1.length ab)::(tI 8 x35.2.1)::(tS 7 u x35.1.length x)::(Bt d x31 e a x28 b)) d9 ca fun ph ea=>?_))))
    refine wf (wC ((!x42.2)) ea (fun d4=>?_) (fun d4=>?_))
    ·
     rw [d4,XW] at H
     refine XT (Aa ?_)
     obtain⟨x67,ex67,H⟩:=Ap H
     refine wl fun K hK=>?_
     refine wc [] ea ca (Ds n ca.has  ex67) fun qv oi ry h0 oz gw=>?_
     obtain rfl:=h0
     refine⟨.one (.c (.bool x67)),rfl,fun nc (j0:Kn 164 [(j,0)] ((tB 67 x67)::(tB 66 (!x42.2))::(tS 10 aa x42.1.length ab)::(tI 8 x35.2.1)::(tS 7 u x35.1.length x)::(Bt d x31 e a x28 b)) nc)=>hK _ _ ?_⟩
     refine Rk 1 1 [tB 4 x67] j0 gw fun pi j1=>?_
     refine wf (wp_ret ?_)
     obtain rfl:=XZ H
     exact rt (.one (.c (.bool x67))) j1 gw rfl
    ·
     rw [d4,XV] at H
     refine wp_skip (XT (Aa (Rk 0 3 ((tA 70 [.slice u x35.1.length x,.slice aa x42.1.length ab])::(tI 8 x35.2.1)::(Bt d x31 e a x28 b)) ea ca fun pj j2=>?_)))
     refine wl fun K hK=>?_
     refine wa [.slice none 0 0,.slice none 0 0] j2 ca fun q he rz (j4:Kn 164 [(j,0),(q,0)] ((tP 12 1 0)::(tA 70 [.slice u x35.1.length x,.slice aa x42.1.length ab])::(tI 8 x35.2.1)::(Bt d x31 e a x28 b)) he) mk=>hK _ _ ?_
     refine wl fun K hK=>?_
     refine Ee 1 0 (.agg [.slice u x35.1.length x,.slice aa x42.1.length ab]) [.slice u x35.1.length x,.slice aa x42.1.length ab] j4 mk fun r0 j5 gx=>hK _ _ ?_
     have j6:Kn 164 [(j,0),(q,0)] ((tP 12 1 0)::(tI 8 x35.2.1)::(Bt d x31 e a x28 b)) he:=j5.kp
     refine wf (XT (XT (Aa (Rk 0 1 ((tI 13 0)::(tP 12 1 0)::(tI 8 x35.2.1)::(Bt d x31 e a x28 b)) j6 gx fun pk j7=>?_))))
     refine wf ?_
     obtain⟨g7,fo,H⟩:=Ap H
     refine Au (fun a' w'=>∃ (g9:Unit)(fl:Array Value)(d0:Ac),a' = ⟨fl,[]⟩∧Kn 164 [(j,0),(q,0)] [] fl∧Al ⟨w,h,AT⟩ d0 [(j,0),(q,0)] [⟨AA l y o m p,some 25⟩,⟨[.slice u x35.1.length x,.slice aa x42.1.length ab],some 65⟩] [] w'∧Ac.le cq d0∧g7=.go g9) ?_ ?_
     ·
      refine wp_block ?_
      refine A3 (fun m3 a' w'=>∃ (x_v10:Int)(fm:Array Value)(du:Ac),a' = ⟨fm,[]⟩∧Kn 164 [(j,0),(q,0)] ((tI 13 x_v10)::(tP 12 1 0)::(tI 8 x35.2.1)::(Bt d x31 e a x28 b)) fm∧Al ⟨w,h,AT⟩ du [(j,0),(q,0)] [⟨AA l y o m p,some 25⟩,⟨[.slice u x35.1.length x,.slice aa x42.1.length ab],some 65⟩] [] w'∧Ac.le cq du∧Bo m3 y x28 x31 x35 x42 x_v10=some g7) n ?_ ?_
      ·
       exact XY 0 ⟨_,_,rfl,j7.kp,gx,Ac.le_refl _,fo⟩
      ·
       rintro af _ r1 ⟨x_v10,fm,du,rfl,j8,bk,b2,s⟩
       clear fo
       obtain _ | af:=af
       ·
        rw [Bo] at s; cases s
       rw [Bo] at s
       replace ac:=ac.mono b2
       replace ad:=ad.mono b2
       replace ag:=ag.mono b2
       replace al:=al.mono b2
       replace ai:=ai.mono b2
       replace aj:=aj.mono b2
       refine XT (XT (Aa (Rk 0 2 ((tB 72 (decide (x_v10<2)))::(tI 13 x_v10)::(tP 12 1 0)::(tI 8 x35.2.1)::(Bt d x31 e a x28 b)) j8 bk fun pm ec=>?_)))
       refine wf (wC (decide (x_v10<2)) ec (fun d5=>?_) (fun d5=>?_))
       ·
        rw [d5,XW] at s
        refine wp_skip (XT (wp_block (XT (Ax (by kernel_rfl) ?_))))
        replace bk:=bk.drew
        refine A5 [] [(j,0),(q,0)] [⟨AA l y o m p,some 25⟩,⟨[.slice u x35.1.length x,.slice aa x42.1.length ab],some 65⟩] ?_
        refine Dr [0,2] [2,0] ((tI 78 x_v10)::(tA 76 (AA l y o m p))::(tI 13 x_v10)::(tP 12 1 0)::(tI 8 x35.2.1)::(Bt d x31 e a x28 b)) ec bk fun pn fy=>?_
        obtain⟨x79,ex79,s⟩:=Ap s
        obtain⟨ml,mo⟩:=Bh ex79
        refine Gq 3 (.one (.c (.ptr 1 (0+(x_v10:Int).toNat*1)))) (fun _ _ _ _ _ h=>h) rfl (by kernel_rfl) (by kernel_rfl) (rfl) rfl bk.plOk (fun _ h=>h) (fun w=>AE (E:=22) fy rfl (by kernel_rfl) (by kernel_rfl) (by rfl) (by rfl) ml mo) (fy.put (by decide) _) fun nd (fz:Kn 164 [(j,0),(q,0)] ((tP 79 1 (0+(x_v10:Int).toNat*1))::(tI 78 x_v10)::(tA 76 (AA l y o m p))::(tI 13 x_v10)::(tP 12 1 0)::(tI 8 x35.2.1)::(Bt d x31 e a x28 b)) nd)=>?_
        obtain⟨x80,ex80,s⟩:=Ap s
        obtain⟨_,_,m0⟩:=Ak ex80
        obtain⟨ce,ci,jd,e3⟩:=Rf (O:=(0+(x_v10:Int).toNat*1)) (Jd ai (Jd aj Re)) m0 rfl
        refine Hw 4 (.one (.c (.slice ce x80.length ci))) (fun _ _ _ _ _ h=>h) rfl (by kernel_rfl) (by kernel_rfl) (by kernel_rfl) (rfl) rfl bk.plOk (fun w hw=>Bq fz hw rfl (by rfl) rfl (by kernel_rfl) jd) (fz.put (by decide) _) fun nf (j9:Kn 164 [(j,0),(q,0)] ((tS 80 ce x80.length ci)::(tP 79 1 (0+(x_v10:Int).toNat*1))::(tI 78 x_v10)::(tA 76 (AA l y o m p))::(tI 13 x_v10)::(tP 12 1 0)::(tI 8 x35.2.1)::(Bt d x31 e a x28 b)) nf)=>?_
        obtain⟨x77,ex77,s⟩:=Ap s
        refine Dl 1 fun K hK=>?_
        refine wc [.agg (AA l y o m p)] j9 bk (C6 af bk.has y ((Ab (Ae ac) (Ab (Ae ad) Ad)):rep du y _) ex77) fun qx oj r2 h1 b3 el=>?_
        replace e3:=e3.mono b3
        obtain⟨_,rfl,⟨_,_,rfl,⟨b5,b7,rfl,e4⟩,⟨_,_,rfl,⟨b6,b8,rfl,e5⟩,rfl⟩⟩⟩:=h1
        refine⟨.one (.agg (QB b5 x77 b7 b6 b8)),rfl,fun ng (ka:Kn 164 [(j,0),(q,0)] ((tA 77 (QB b5 x77 b7 b6 b8))::(tS 80 ce x80.length ci)::(tP 79 1 (0+(x_v10:Int).toNat*1))::(tI 78 x_v10)::(tA 76 (AA l y o m p))::(tI 13 x_v10)::(tP 12 1 0)::(tI 8 x35.2.1)::(Bt d x31 e a x28 b)) ng)=>hK _ _ el.plOk ?_⟩
        obtain⟨x81,ex81,s⟩:=Ap s
        refine Dl 5 fun K hK=>?_
        refine wc [.c (.slice ce x80.length ci)] ka el (BB af el.has x80 e3 ex81) fun qy i1 r3 h2 bh em=>?_
        replace e4:=e4.mono bh
        replace e5:=e5.mono bh
        obtain⟨dd,dm,rfl,mt⟩:=h2
        refine⟨.one (.c (.slice dd x81.length dm)),rfl,fun nh (kb:Kn 164 [(j,0),(q,0)] ((tS 81 dd x81.length dm)::(tA 77 (QB b5 x77 b7 b6 b8))::(tS 80 ce x80.length ci)::(tP 79 1 (0+(x_v10:Int).toNat*1))::(tI 78 x_v10)::(tA 76 (AA l y o m p))::(tI 13 x_v10)::(tP 12 1 0)::(tI 8 x35.2.1)::(Bt d x31 e a x28 b)) nh)=>hK _ _ em.plOk ?_⟩
        obtain⟨x82,ex82,s⟩:=Ap s
        refine Dl 6 fun K hK=>?_
        refine wc [.agg (QB b5 x77 b7 b6 b8),.c (.slice dd x81.length dm)] kb em (G5 af em.has x77 ((Ab (Ae e4) (Ab (Ae e5) Ad)):rep i1 x77 _) x81 mt ex82) fun qz i2 r5 h3 b9 a1=>?_
        replace ac:=ac.mono (XU (XU b3 bh) b9)
        replace ad:=ad.mono (XU (XU b3 bh) b9)
        replace ai:=ai.mono (XU (XU b3 bh) b9)
        replace aj:=aj.mono (XU (XU b3 bh) b9)
        obtain⟨_,_,_,_,rfl,⟨f,g,rfl,ak⟩,⟨i,k,rfl,ao⟩,rfl,rfl⟩:=h3
        refine⟨.tup [.c (.slice f x82.1.length g),.c (.slice i x82.2.1.length k),.c (.int .i64 x82.2.2.1),.c (.int .i64 x82.2.2.2)],rfl,fun ni (kc:Kn 164 [(j,0),(q,0)] ((82,.tup [.c (.slice f x82.1.length g),.c (.slice i x82.2.1.length k),.c (.int .i64 x82.2.2.1),.c (.int .i64 x82.2.2.2)])::(tS 81 dd x81.length dm)::(tA 77 (QB b5 x77 b7 b6 b8))::(tS 80 ce x80.length ci)::(tP 79 1 (0+(x_v10:Int).toNat*1))::(tI 78 x_v10)::(tA 76 (AA l y o m p))::(tI 13 x_v10)::(tP 12 1 0)::(tI 8 x35.2.1)::(Bt d x31 e a x28 b)) ni)=>hK _ _ a1.plOk ?_⟩
        refine Dr [7,8,9,10,11,12,13,14,15] [15,14,13,12,11,10,9,8,7,6,5,1,4,3,2,0] ((tI 17 x82.2.2.2)::(AQ x82 i k f g x_v10 x35 d x31 e a x28 b)) kc a1 fun po kd=>?_
        refine AU (by kernel_rfl) (XT (Ax (by kernel_rfl) ?_))
        replace a1:=a1.drew
        refine A5 [] [(j,0),(q,0)] [⟨AA l y o m p,some 25⟩,⟨[.slice u x35.1.length x,.slice aa x42.1.length ab],some 65⟩] ?_
        refine Dr [0,2] [2,0] ((tI 90 x_v10)::(tA 88 (AA l y o m p))::(tI 17 x82.2.2.2)::(AQ x82 i k f g x_v10 x35 d x31 e a x28 b)) kd a1 fun pp f0=>?_
        obtain⟨x91,ex91,s⟩:=Ap s
        obtain⟨mm,mp⟩:=Bh ex91
        refine Gq 3 (.one (.c (.ptr 1 (0+(x_v10:Int).toNat*1)))) (fun _ _ _ _ _ h=>h) rfl (by kernel_rfl) (by kernel_rfl) (rfl) rfl a1.plOk (fun _ h=>h) (fun w=>AE (E:=22) f0 rfl (by kernel_rfl) (by kernel_rfl) (by rfl) (by rfl) mm mp) (f0.put (by decide) _) fun nj (f1:Kn 164 [(j,0),(q,0)] ((tP 91 1 (0+(x_v10:Int).toNat*1))::(tI 90 x_v10)::(tA 88 (AA l y o m p))::(tI 17 x82.2.2.2)::(AQ x82 i k f g x_v10 x35 d x31 e a x28 b)) nj)=>?_
        obtain⟨x92,ex92,s⟩:=Ap s
        obtain⟨_,_,m1⟩:=Ak ex92
        obtain⟨a8,bf,je,e6⟩:=Rf (O:=(0+(x_v10:Int).toNat*1)) (Jd ai (Jd aj Re)) m1 rfl
        refine Hw 4 (.one (.c (.slice a8 x92.length bf))) (fun _ _ _ _ _ h=>h) rfl (by kernel_rfl) (by kernel_rfl) (by kernel_rfl) (rfl) rfl a1.plOk (fun w hw=>Bq f1 hw rfl (by rfl) rfl (by kernel_rfl) je) (f1.put (by decide) _) fun nk (ke:Kn 164 [(j,0),(q,0)] ((tS 92 a8 x92.length bf)::(tP 91 1 (0+(x_v10:Int).toNat*1))::(tI 90 x_v10)::(tA 88 (AA l y o m p))::(tI 17 x82.2.2.2)::(AQ x82 i k f g x_v10 x35 d x31 e a x28 b)) nk)=>?_
        refine Dr [6,8] [8,6,4,3,2,0] ((tS 96 d x31.length e)::(tS 94 a x28.length b)::(tS 92 a8 x92.length bf)::(tA 88 (AA l y o m p))::(tI 17 x82.2.2.2)::(AQ x82 i k f g x_v10 x35 d x31 e a x28 b)) ke a1 fun pq kf=>?_
        obtain⟨x89,ex89,s⟩:=Ap s
        refine Dl 1 fun K hK=>?_
        refine wc [.agg (AA l y o m p)] kf a1 (C6 af a1.has y ((Ab (Ae ac) (Ab (Ae ad) Ad)):rep i2 y _) ex89) fun q0 ol r6 h5 aw en=>?_
        replace e6:=e6.mono aw
        obtain⟨_,rfl,⟨_,_,rfl,⟨a3,ba,rfl,e7⟩,⟨_,_,rfl,⟨a4,bb,rfl,e8⟩,rfl⟩⟩⟩:=h5
        refine⟨.one (.agg (NA a3 x89 ba a4 bb)),rfl,fun nm (kh:Kn 164 [(j,0),(q,0)] ((tA 89 (NA a3 x89 ba a4 bb))::(tS 96 d x31.length e)::(tS 94 a x28.length b)::(tS 92 a8 x92.length bf)::(tA 88 (AA l y o m p))::(tI 17 x82.2.2.2)::(AQ x82 i k f g x_v10 x35 d x31 e a x28 b)) nm)=>hK _ _ en.plOk ?_⟩
        obtain⟨x93,ex93,s⟩:=Ap s
        refine Dl 5 fun K hK=>?_
        refine wc [.c (.slice a8 x92.length bf)] kh en (BB af en.has x92 e6 ex93) fun q1 om r7 h6 au eo=>?_
        replace ag:=ag.mono (XU (XU (XU (XU b3 bh) b9) aw) au)
        obtain⟨cb,cf,rfl,e9⟩:=h6
        refine⟨.one (.c (.slice cb x93.length cf)),rfl,fun nn (ki:Kn 164 [(j,0),(q,0)] ((tS 93 cb x93.length cf)::(tA 89 (NA a3 x89 ba a4 bb))::(tS 96 d x31.length e)::(tS 94 a x28.length b)::(tS 92 a8 x92.length bf)::(tA 88 (AA l y o m p))::(tI 17 x82.2.2.2)::(AQ x82 i k f g x_v10 x35 d x31 e a x28 b)) nn)=>hK _ _ eo.plOk ?_⟩
        obtain⟨x95,ex95,s⟩:=Ap s
        refine Dl 7 fun K hK=>?_
        refine wc [.c (.slice a x28.length b)] ki eo (BB af eo.has x28 ag ex95) fun q2 oo r8 h7 ap ep=>?_
        replace al:=al.mono (XU (XU (XU (XU (XU b3 bh) b9) aw) au) ap)
        obtain⟨cm,co,rfl,fa⟩:=h7
        refine⟨.one (.c (.slice cm x95.length co)),rfl,fun np (kk:Kn 164 [(j,0),(q,0)] ((tS 95 cm x95.length co)::(tS 93 cb x93.length cf)::(tA 89 (NA a3 x89 ba a4 bb))::(tS 96 d x31.length e)::(tS 94 a x28.length b)::(tS 92 a8 x92.length bf)::(tA 88 (AA l y o m p))::(tI 17 x82.2.2.2)::(AQ x82 i k f g x_v10 x35 d x31 e a x28 b)) np)=>hK _ _ ep.plOk ?_⟩
        obtain⟨x97,ex97,s⟩:=Ap s
        refine Dl 9 fun K hK=>?_
        refine wc [.c (.slice d x31.length e)] kk ep (BB af ep.has x31 al ex97) fun q3 i3 r9 h8 an er=>?_
        replace e7:=e7.mono (XU (XU au ap) an)
        replace e8:=e8.mono (XU (XU au ap) an)
        replace e9:=e9.mono (XU ap an)
        replace fa:=fa.mono an
        obtain⟨de,dn,rfl,mu⟩:=h8
        refine⟨.one (.c (.slice de x97.length dn)),rfl,fun nq (kl:Kn 164 [(j,0),(q,0)] ((tS 97 de x97.length dn)::(tS 95 cm x95.length co)::(tS 93 cb x93.length cf)::(tA 89 (NA a3 x89 ba a4 bb))::(tS 96 d x31.length e)::(tS 94 a x28.length b)::(tS 92 a8 x92.length bf)::(tA 88 (AA l y o m p))::(tI 17 x82.2.2.2)::(AQ x82 i k f g x_v10 x35 d x31 e a x28 b)) nq)=>hK _ _ er.plOk ?_⟩
        obtain⟨x98,ex98,s⟩:=Ap s
        refine Dl 10 fun K hK=>?_
        refine wc [.agg (NA a3 x89 ba a4 bb),.c (.slice cb x93.length cf),.c (.slice cm x95.length co),.c (.slice de x97.length dn)] kl er (Gb af er.has x89 ((Ab (Ae e7) (Ab (Ae e8) Ad)):rep i3 x89 _) x93 e9 x95 fa x97 mu ex98) fun q4 d1 sa h9 bi ae=>?_
        replace ac:=ac.mono (XU (XU (XU (XU aw au) ap) an) bi)
        replace ad:=ad.mono (XU (XU (XU (XU aw au) ap) an) bi)
        replace ag:=ag.mono (XU (XU ap an) bi)
        replace al:=al.mono (XU an bi)
        replace ai:=ai.mono (XU (XU (XU (XU aw au) ap) an) bi)
        replace aj:=aj.mono (XU (XU (XU (XU aw au) ap) an) bi)
        replace ak:=ak.mono (XU (XU (XU (XU aw au) ap) an) bi)
        replace ao:=ao.mono (XU (XU (XU (XU aw au) ap) an) bi)
        obtain⟨_,_,rfl,⟨a5,bc,rfl,o3⟩,rfl⟩:=h9
        refine⟨.tup [.c (.slice a5 x98.1.length bc),.c (.int .i64 x98.2)],rfl,fun nr (kn:Kn 164 [(j,0),(q,0)] ((98,.tup [.c (.slice a5 x98.1.length bc),.c (.int .i64 x98.2)])::(tS 97 de x97.length dn)::(tS 95 cm x95.length co)::(tS 93 cb x93.length cf)::(tA 89 (NA a3 x89 ba a4 bb))::(tS 96 d x31.length e)::(tS 94 a x28.length b)::(tS 92 a8 x92.length bf)::(tA 88 (AA l y o m p))::(tI 17 x82.2.2.2)::(AQ x82 i k f g x_v10 x35 d x31 e a x28 b)) nr)=>hK _ _ ae.plOk ?_⟩
        refine Dr [11,12,13,14,15] [15,14,13,12,11,10,9,7,5,1,8,6,4,3,2,0] ((tI 19 x98.2)::(tS 18 a5 x98.1.length bc)::(tI 17 x82.2.2.2)::(AQ x82 i k f g x_v10 x35 d x31 e a x28 b)) kn ae fun pt ko=>?_
        refine AU (by kernel_rfl) (XT (XT ?_))
        obtain⟨g8,z,s⟩:=Ap s
        refine Au (fun a' w'=>∃ (fn:Array Value)(dv:Ac),a' = ⟨fn,[]⟩∧Kn 164 [(j,0),(q,0)] [tI 16 x82.2.2.1,tS 15 i x82.2.1.length k,tS 14 f x82.1.length g,tI 13 x_v10,tP 12 1 0,tI 8 x35.2.1,tS 6 d x31.length e,tS 5 a x28.length b,tP 2 0 0,tB 140 g8] fn∧Al ⟨w,h,AT⟩ dv [(j,0),(q,0)] [⟨AA l y o m p,some 25⟩,⟨[.slice u x35.1.length x,.slice aa x42.1.length ab],some 65⟩] [] w'∧Ac.le d1 dv) ?_ ?_
        ·
         refine Aa (Rk 0 3 ((tB 103 (x82.2.2.2 != 0))::(tI 19 x98.2)::(tS 18 a5 x98.1.length bc)::(AQ x82 i k f g x_v10 x35 d x31 e a x28 b)) ko ae fun hf f2=>?_)
         rcases Bool.eq_false_or_eq_true ((x82.2.2.2 != 0)) with cu | cu
         ·
          rw [cu,XW] at z
          have kq:Kn 164 [(j,0),(q,0)] ((tB 103 true)::(tI 19 x98.2)::(tS 18 a5 x98.1.length bc)::(AQ x82 i k f g x_v10 x35 d x31 e a x28 b)) hf:=(f2.setB 103 true (by rfl) cu).kp
          refine Rk 3 37 ((tB 140 true)::(AQ x82 i k f g x_v10 x35 d x31 e a x28 b)) kq ae fun pu kr=>?_
          refine wf ?_
          obtain rfl:=XZ z
          exact XY _ ⟨_,rfl,kr.kp,ae,Ac.le_refl _⟩
         ·
          rw [cu,XV] at z
          have ks:Kn 164 [(j,0),(q,0)] ((tB 103 false)::(tI 19 x98.2)::(tS 18 a5 x98.1.length bc)::(AQ x82 i k f g x_v10 x35 d x31 e a x28 b)) hf:=(f2.setB 103 false (by rfl) cu).kp
          refine Rk 3 4 ((tB 107 (x98.2 != 0))::(tS 18 a5 x98.1.length bc)::(AQ x82 i k f g x_v10 x35 d x31 e a x28 b)) ks ae fun hg f3=>?_
          rcases Bool.eq_false_or_eq_true ((x98.2 != 0)) with cv | cv
          ·
           rw [cv,XW] at z
           have kt:Kn 164 [(j,0),(q,0)] ((tB 107 true)::(tS 18 a5 x98.1.length bc)::(AQ x82 i k f g x_v10 x35 d x31 e a x28 b)) hg:=(f3.setB 107 true (by rfl) cv).kp
           refine Rk 7 33 ((tB 140 true)::(AQ x82 i k f g x_v10 x35 d x31 e a x28 b)) kt ae fun pv ku=>?_
           refine wf ?_
           obtain rfl:=XZ z
           exact XY _ ⟨_,rfl,ku.kp,ae,Ac.le_refl _⟩
          ·
           rw [cv,XV] at z
           have kv:Kn 164 [(j,0),(q,0)] ((tB 107 false)::(tS 18 a5 x98.1.length bc)::(AQ x82 i k f g x_v10 x35 d x31 e a x28 b)) hg:=(f3.setB 107 false (by rfl) cv).kp
           refine Rk 7 6 ((tB 113 (decide (((x98.1.length:Nat):Int)>x82.2.2.1)))::(AQ x82 i k f g x_v10 x35 d x31 e a x28 b)) kv ae fun hi f4=>?_
           rcases Bool.eq_false_or_eq_true (decide (((x98.1.length:Nat):Int)>x82.2.2.1)) with cw | cw
           ·
            rw [cw,XW] at z
            have kw:Kn 164 [(j,0),(q,0)] ((tB 113 true)::(AQ x82 i k f g x_v10 x35 d x31 e a x28 b)) hi:=(f4.setB 113 true (by rfl) cw).kp
            refine Rk 13 27 ((tB 140 true)::(AQ x82 i k f g x_v10 x35 d x31 e a x28 b)) kw ae fun pw kx=>?_
            refine wf ?_
            obtain rfl:=XZ z
            exact XY _ ⟨_,rfl,kx.kp,ae,Ac.le_refl _⟩
           ·
            rw [cw,XV] at z
            have ky:Kn 164 [(j,0),(q,0)] ((tB 113 false)::(AQ x82 i k f g x_v10 x35 d x31 e a x28 b)) hi:=(f4.setB 113 false (by rfl) cw).kp
            refine Rk 13 3 ((tB 116 (x_v10 == 0))::(tB 113 false)::(AQ x82 i k f g x_v10 x35 d x31 e a x28 b)) ky ae fun hj f5=>?_
            rcases Bool.eq_false_or_eq_true ((x_v10 == 0)) with cx | cx
            ·
             rw [cx,XW] at z
             have kz:Kn 164 [(j,0),(q,0)] ((tB 116 true)::(tB 113 false)::(AQ x82 i k f g x_v10 x35 d x31 e a x28 b)) hj:=(f5.setB 116 true (by rfl) cx).kp
             refine Rk 16 6 ((tB 122 (x82.2.2.1 != x35.2.1))::(AQ x82 i k f g x_v10 x35 d x31 e a x28 b)) kz ae fun hl f6=>?_
             rcases Bool.eq_false_or_eq_true ((x82.2.2.1 != x35.2.1)) with cy | cy
             ·
              rw [cy,XW] at z
              have k0:Kn 164 [(j,0),(q,0)] ((tB 122 true)::(AQ x82 i k f g x_v10 x35 d x31 e a x28 b)) hl:=(f6.setB 122 true (by rfl) cy).kp
              refine Rk 22 18 ((tB 140 true)::(AQ x82 i k f g x_v10 x35 d x31 e a x28 b)) k0 ae fun px k1=>?_
              refine wf ?_
              obtain rfl:=XZ z
              exact XY _ ⟨_,rfl,k1.kp,ae,Ac.le_refl _⟩
             ·
              rw [cy,XV] at z
              have k2:Kn 164 [(j,0),(q,0)] ((tB 122 false)::(AQ x82 i k f g x_v10 x35 d x31 e a x28 b)) hl:=(f6.setB 122 false (by rfl) cy).kp
              refine Rk 22 5 ((tB 127 (decide (x82.2.2.1<x35.2.1)))::(AQ x82 i k f g x_v10 x35 d x31 e a x28 b)) k2 ae fun hn f7=>?_
              rcases Bool.eq_false_or_eq_true (decide (x82.2.2.1<x35.2.1)) with cz | cz
              ·
               rw [cz,XW] at z
               have k3:Kn 164 [(j,0),(q,0)] ((tB 127 true)::(AQ x82 i k f g x_v10 x35 d x31 e a x28 b)) hn:=(f7.setB 127 true (by rfl) cz).kp
               refine Rk 27 13 ((tB 140 true)::(AQ x82 i k f g x_v10 x35 d x31 e a x28 b)) k3 ae fun py k4=>?_
               refine wf ?_
               obtain rfl:=XZ z
               exact XY _ ⟨_,rfl,k4.kp,ae,Ac.le_refl _⟩
              ·
               rw [cz,XV] at z
               have k5:Kn 164 [(j,0),(q,0)] ((tB 127 false)::(AQ x82 i k f g x_v10 x35 d x31 e a x28 b)) hn:=(f7.setB 127 false (by rfl) cz).kp
               refine Rk 27 1 ((tA 128 (AA l y o m p))::(tB 127 false)::(AQ x82 i k f g x_v10 x35 d x31 e a x28 b)) k5 ae fun pz f8=>?_
               obtain⟨x129,ex129,z⟩:=Ap z
               refine Aw _ rfl (Aj f8 (by kernel_rfl)) fun K hK=>?_
               refine wc [.agg (AA l y o m p)] f8 ae (C6 af ae.has y ((Ab (Ae ac) (Ab (Ae ad) Ad)):rep d1 y _) ex129) fun q6 op sc ib ax es=>?_
               replace ak:=ak.mono ax
               obtain⟨_,rfl,⟨_,_,rfl,⟨bp,bx,rfl,fb⟩,⟨_,_,rfl,⟨bq,bz,rfl,fc⟩,rfl⟩⟩⟩:=ib
               refine⟨.one (.agg (OA bp x129 bx bq bz)),rfl,fun ns (k6:Kn 164 [(j,0),(q,0)] ((tA 129 (OA bp x129 bx bq bz))::(tA 128 (AA l y o m p))::(tB 127 false)::(AQ x82 i k f g x_v10 x35 d x31 e a x28 b)) ns)=>hK _ _ ?_⟩
               refine Rk 29 1 ((tS 130 f x82.1.length g)::(tA 129 (OA bp x129 bx bq bz))::(tB 127 false)::(AQ x82 i k f g x_v10 x35 d x31 e a x28 b)) k6 es fun p0 f9=>?_
               obtain⟨x131,ex131,z⟩:=Ap z
               refine Aw _ rfl (Aj f9 (by kernel_rfl)) fun K hK=>?_
               refine wc [.c (.slice f x82.1.length g)] f9 es (BB af es.has x82.1 ak ex131) fun q7 i5 sd ic aq gz=>?_
               replace fb:=fb.mono aq
               replace fc:=fc.mono aq
               obtain⟨df,dp,rfl,mv⟩:=ic
               refine⟨.one (.c (.slice df x131.length dp)),rfl,fun nt (ga:Kn 164 [(j,0),(q,0)] ((tS 131 df x131.length dp)::(tS 130 f x82.1.length g)::(tA 129 (OA bp x129 bx bq bz))::(tB 127 false)::(AQ x82 i k f g x_v10 x35 d x31 e a x28 b)) nt)=>hK _ _ ?_⟩
               obtain⟨x132,ex132,z⟩:=Ap z
               refine Aw _ rfl (Aj ga (by kernel_rfl)) fun K hK=>?_
               refine wc [.agg (OA bp x129 bx bq bz),.c (.slice df x131.length dp)] ga gz (Dt af gz.has x129 ((Ab (Ae fb) (Ab (Ae fc) Ad)):rep i5 x129 _) x131 mv ex132) fun q8 i6 se ie ay ck=>?_
               replace ac:=ac.mono (XU (XU ax aq) ay)
               replace ad:=ad.mono (XU (XU ax aq) ay)
               replace ag:=ag.mono (XU (XU ax aq) ay)
               replace al:=al.mono (XU (XU ax aq) ay)
               replace ai:=ai.mono (XU (XU ax aq) ay)
               replace aj:=aj.mono (XU (XU ax aq) ay)
               replace ak:=ak.mono (XU aq ay)
               replace ao:=ao.mono (XU (XU ax aq) ay)
               obtain rfl:=ie
               refine⟨.one (.c (.bool x132)),rfl,fun nu (k7:Kn 164 [(j,0),(q,0)] ((tB 132 x132)::(tS 131 df x131.length dp)::(tS 130 f x82.1.length g)::(tA 129 (OA bp x129 bx bq bz))::(tB 127 false)::(AQ x82 i k f g x_v10 x35 d x31 e a x28 b)) nu)=>hK _ _ ?_⟩
               refine Rk 32 3 ((tB 135 (!x132))::(AQ x82 i k f g x_v10 x35 d x31 e a x28 b)) k7 ck fun ho gb=>?_
               rcases Bool.eq_false_or_eq_true ((!x132)) with c0 | c0
               ·
                rw [c0,XW] at z
                have k8:Kn 164 [(j,0),(q,0)] ((tB 135 true)::(AQ x82 i k f g x_v10 x35 d x31 e a x28 b)) ho:=(gb.setB 135 true (by rfl) c0).kp
                refine Rk 35 5 ((tB 140 true)::(AQ x82 i k f g x_v10 x35 d x31 e a x28 b)) k8 ck fun p1 k9=>?_
                refine wf ?_
                obtain rfl:=XZ z
                exact XY _ ⟨_,rfl,k9.kp,ck,XU ax (XU aq ay)⟩
               ·
                rw [c0,XV] at z
                have la:Kn 164 [(j,0),(q,0)] ((tB 135 false)::(AQ x82 i k f g x_v10 x35 d x31 e a x28 b)) ho:=(gb.setB 135 false (by rfl) c0).kp
                refine Rk 35 2 ((tS 137 i x82.2.1.length k)::(tA 136 (AA l y o m p))::(tB 135 false)::(AQ x82 i k f g x_v10 x35 d x31 e a x28 b)) la ck fun p2 gc=>?_
                obtain⟨x138,ex138,z⟩:=Ap z
                refine Aw _ rfl (Aj gc (by kernel_rfl)) fun K hK=>?_
                refine wc [.agg (AA l y o m p),.c (.slice i x82.2.1.length k)] gc ck (HI af ck.has y ((Ab (Ae ac) (Ab (Ae ad) Ad)):rep i6 y _) x82.2.1 ao ex138) fun q9 oq sf ig mh g0=>?_
                obtain rfl:=ig
                refine⟨.one (.c (.bool x138)),rfl,fun nw (lb:Kn 164 [(j,0),(q,0)] ((tB 138 x138)::(tS 137 i x82.2.1.length k)::(tA 136 (AA l y o m p))::(tB 135 false)::(AQ x82 i k f g x_v10 x35 d x31 e a x28 b)) nw)=>hK _ _ ?_⟩
                refine Rk 38 2 ((tB 140 (!x138))::(AQ x82 i k f g x_v10 x35 d x31 e a x28 b)) lb g0 fun p3 lc=>?_
                refine wf ?_
                obtain rfl:=XZ z
                exact XY _ ⟨_,rfl,lc.kp,g0,XU ax (XU aq (XU ay mh))⟩
            ·
             rw [cx,XV] at z
             have ld:Kn 164 [(j,0),(q,0)] ((tB 116 false)::(tB 113 false)::(AQ x82 i k f g x_v10 x35 d x31 e a x28 b)) hj:=(f5.setB 116 false (by rfl) cx).kp
             refine Rk 16 11 ((tB 127 (decide (x82.2.2.1<x35.2.1)))::(AQ x82 i k f g x_v10 x35 d x31 e a x28 b)) ld ae fun hp gd=>?_
             rcases Bool.eq_false_or_eq_true (decide (x82.2.2.1<x35.2.1)) with c1 | c1
             ·
              rw [c1,XW] at z
              have lf:Kn 164 [(j,0),(q,0)] ((tB 127 true)::(AQ x82 i k f g x_v10 x35 d x31 e a x28 b)) hp:=(gd.setB 127 true (by rfl) c1).kp
              refine Rk 27 13 ((tB 140 true)::(AQ x82 i k f g x_v10 x35 d x31 e a x28 b)) lf ae fun p4 lh=>?_
              refine wf ?_
              obtain rfl:=XZ z
              exact XY _ ⟨_,rfl,lh.kp,ae,Ac.le_refl _⟩
             ·
              rw [c1,XV] at z
              have li:Kn 164 [(j,0),(q,0)] ((tB 127 false)::(AQ x82 i k f g x_v10 x35 d x31 e a x28 b)) hp:=(gd.setB 127 false (by rfl) c1).kp
              refine Rk 27 1 ((tA 128 (AA l y o m p))::(tB 127 false)::(AQ x82 i k f g x_v10 x35 d x31 e a x28 b)) li ae fun p5 gf=>?_
              obtain⟨x129,ex129,z⟩:=Ap z
              refine Aw _ rfl (Aj gf (by kernel_rfl)) fun K hK=>?_
              refine wc [.agg (AA l y o m p)] gf ae (C6 af ae.has y ((Ab (Ae ac) (Ab (Ae ad) Ad)):rep d1 y _) ex129) fun ra os sg ih az eu=>?_
              replace ak:=ak.mono az
              obtain⟨_,rfl,⟨_,_,rfl,⟨br,b0,rfl,fd⟩,⟨_,_,rfl,⟨bs,b1,rfl,fe⟩,rfl⟩⟩⟩:=ih
              refine⟨.one (.agg (OB br x129 b0 bs b1)),rfl,fun nx (lj:Kn 164 [(j,0),(q,0)] ((tA 129 (OB br x129 b0 bs b1))::(tA 128 (AA l y o m p))::(tB 127 false)::(AQ x82 i k f g x_v10 x35 d x31 e a x28 b)) nx)=>hK _ _ ?_⟩
              refine Rk 29 1 ((tS 130 f x82.1.length g)::(tA 129 (OB br x129 b0 bs b1))::(tB 127 false)::(AQ x82 i k f g x_v10 x35 d x31 e a x28 b)) lj eu fun p6 gg=>?_
              obtain⟨x131,ex131,z⟩:=Ap z
              refine Aw _ rfl (Aj gg (by kernel_rfl)) fun K hK=>?_
              refine wc [.c (.slice f x82.1.length g)] gg eu (BB af eu.has x82.1 ak ex131) fun rc i8 sh ii ar g1=>?_
              replace fd:=fd.mono ar
              replace fe:=fe.mono ar
              obtain⟨dg,dq,rfl,mw⟩:=ii
              refine⟨.one (.c (.slice dg x131.length dq)),rfl,fun ny (gh:Kn 164 [(j,0),(q,0)] ((tS 131 dg x131.length dq)::(tS 130 f x82.1.length g)::(tA 129 (OB br x129 b0 bs b1))::(tB 127 false)::(AQ x82 i k f g x_v10 x35 d x31 e a x28 b)) ny)=>hK _ _ ?_⟩
              obtain⟨x132,ex132,z⟩:=Ap z
              refine Aw _ rfl (Aj gh (by kernel_rfl)) fun K hK=>?_
              refine wc [.agg (OB br x129 b0 bs b1),.c (.slice dg x131.length dq)] gh g1 (Dt af g1.has x129 ((Ab (Ae fd) (Ab (Ae fe) Ad)):rep i8 x129 _) x131 mw ex132) fun rd i9 sj ij a0 cl=>?_
              replace ac:=ac.mono (XU (XU az ar) a0)
              replace ad:=ad.mono (XU (XU az ar) a0)
              replace ag:=ag.mono (XU (XU az ar) a0)
              replace al:=al.mono (XU (XU az ar) a0)
              replace ai:=ai.mono (XU (XU az ar) a0)
              replace aj:=aj.mono (XU (XU az ar) a0)
              replace ak:=ak.mono (XU ar a0)
              replace ao:=ao.mono (XU (XU az ar) a0)
              obtain rfl:=ij
              refine⟨.one (.c (.bool x132)),rfl,fun nz (lk:Kn 164 [(j,0),(q,0)] ((tB 132 x132)::(tS 131 dg x131.length dq)::(tS 130 f x82.1.length g)::(tA 129 (OB br x129 b0 bs b1))::(tB 127 false)::(AQ x82 i k f g x_v10 x35 d x31 e a x28 b)) nz)=>hK _ _ ?_⟩
              refine Rk 32 3 ((tB 135 (!x132))::(AQ x82 i k f g x_v10 x35 d x31 e a x28 b)) lk cl fun hq gi=>?_
              rcases Bool.eq_false_or_eq_true ((!x132)) with c2 | c2
              ·
               rw [c2,XW] at z
               have ll:Kn 164 [(j,0),(q,0)] ((tB 135 true)::(AQ x82 i k f g x_v10 x35 d x31 e a x28 b)) hq:=(gi.setB 135 true (by rfl) c2).kp
               refine Rk 35 5 ((tB 140 true)::(AQ x82 i k f g x_v10 x35 d x31 e a x28 b)) ll cl fun p7 lm=>?_
               refine wf ?_
               obtain rfl:=XZ z
               exact XY _ ⟨_,rfl,lm.kp,cl,XU az (XU ar a0)⟩
              ·
               rw [c2,XV] at z
               have ln:Kn 164 [(j,0),(q,0)] ((tB 135 false)::(AQ x82 i k f g x_v10 x35 d x31 e a x28 b)) hq:=(gi.setB 135 false (by rfl) c2).kp
               refine Rk 35 2 ((tS 137 i x82.2.1.length k)::(tA 136 (AA l y o m p))::(tB 135 false)::(AQ x82 i k f g x_v10 x35 d x31 e a x28 b)) ln cl fun p8 gj=>?_
               obtain⟨x138,ex138,z⟩:=Ap z
               refine Aw _ rfl (Aj gj (by kernel_rfl)) fun K hK=>?_
               refine wc [.agg (AA l y o m p),.c (.slice i x82.2.1.length k)] gj cl (HI af cl.has y ((Ab (Ae ac) (Ab (Ae ad) Ad)):rep i9 y _) x82.2.1 ao ex138) fun re ot sk il mi g2=>?_
               obtain rfl:=il
               refine⟨.one (.c (.bool x138)),rfl,fun n0 (lo:Kn 164 [(j,0),(q,0)] ((tB 138 x138)::(tS 137 i x82.2.1.length k)::(tA 136 (AA l y o m p))::(tB 135 false)::(AQ x82 i k f g x_v10 x35 d x31 e a x28 b)) n0)=>hK _ _ ?_⟩
               refine Rk 38 2 ((tB 140 (!x138))::(AQ x82 i k f g x_v10 x35 d x31 e a x28 b)) lo g2 fun p9 lp=>?_
               refine wf ?_
               obtain rfl:=XZ z
               exact XY _ ⟨_,rfl,lp.kp,g2,XU az (XU ar (XU a0 mi))⟩
        ·
         rintro _ sl ⟨fn,dv,rfl,ed,a2,bj⟩
         replace ac:=ac.mono bj
         replace ad:=ad.mono bj
         replace ag:=ag.mono bj
         replace al:=al.mono bj
         replace ai:=ai.mono bj
         replace aj:=aj.mono bj
         replace ak:=ak.mono bj
         replace ao:=ao.mono bj
         refine wC (g8) ed (fun d7=>?_) (fun d7=>?_)
         ·
          rw [B7 d7] at s
          refine XT (Aa (Rk 0 1 [tB 4 false] ed a2 fun qa lq=>?_))
          refine wf (wp_ret ?_)
          obtain rfl:=XZ s
          obtain rfl:=XZ H
          exact rt (.one (.c (.bool false))) lq a2 rfl
         ·
          rw [B8 d7] at s
          refine wp_skip (XT (Ax (by kernel_rfl) ?_))
          replace a2:=a2.drew
          refine A5 [] [(j,0),(q,0)] [⟨AA l y o m p,some 25⟩,⟨[.slice u x35.1.length x,.slice aa x42.1.length ab],some 65⟩] ?_
          refine Dr [0,2] [2,0] ((tI 144 x_v10)::(tA 142 (AA l y o m p))::(AQ x82 i k f g x_v10 x35 d x31 e a x28 b)) ed a2 fun qb gk=>?_
          obtain⟨x145,ex145,s⟩:=Ap s
          obtain⟨mn,mq⟩:=Bh ex145
          refine Gq 3 (.one (.c (.ptr 1 (0+(x_v10:Int).toNat*1)))) (fun _ _ _ _ _ h=>h) rfl (by kernel_rfl) (by kernel_rfl) (rfl) rfl a2.plOk (fun _ h=>h) (fun w=>AE (E:=22) gk rfl (by kernel_rfl) (by kernel_rfl) (by rfl) (by rfl) mn mq) (gk.put (by decide) _) fun n1 (gl:Kn 164 [(j,0),(q,0)] ((tP 145 1 (0+(x_v10:Int).toNat*1))::(tI 144 x_v10)::(tA 142 (AA l y o m p))::(AQ x82 i k f g x_v10 x35 d x31 e a x28 b)) n1)=>?_
          obtain⟨x146,ex146,s⟩:=Ap s
          obtain⟨_,_,m2⟩:=Ak ex146
          obtain⟨a9,bg,jf,ff⟩:=Rf (O:=(0+(x_v10:Int).toNat*1)) (Jd ai (Jd aj Re)) m2 rfl
          refine Hw 4 (.one (.c (.slice a9 x146.length bg))) (fun _ _ _ _ _ h=>h) rfl (by kernel_rfl) (by kernel_rfl) (by kernel_rfl) (rfl) rfl a2.plOk (fun w hw=>Bq gl hw rfl (by rfl) rfl (by kernel_rfl) jf) (gl.put (by decide) _) fun n2 (lr:Kn 164 [(j,0),(q,0)] ((tS 146 a9 x146.length bg)::(tP 145 1 (0+(x_v10:Int).toNat*1))::(tI 144 x_v10)::(tA 142 (AA l y o m p))::(AQ x82 i k f g x_v10 x35 d x31 e a x28 b)) n2)=>?_
          refine Dr [6,8] [8,6,4,3,2,0] ((tS 150 i x82.2.1.length k)::(tS 148 f x82.1.length g)::(tS 146 a9 x146.length bg)::(tA 142 (AA l y o m p))::(tI 16 x82.2.2.1)::(tI 13 x_v10)::(tP 12 1 0)::(tI 8 x35.2.1)::(Bt d x31 e a x28 b)) lr a2 fun qc ls=>?_
          obtain⟨x143,ex143,s⟩:=Ap s
          refine Dl 1 fun K hK=>?_
          refine wc [.agg (AA l y o m p)] ls a2 (C6 af a2.has y ((Ab (Ae ac) (Ab (Ae ad) Ad)):rep dv y _) ex143) fun rf ou sm im dx ev=>?_
          replace ff:=ff.mono dx
          obtain⟨_,rfl,⟨_,_,rfl,⟨a6,bd,rfl,fg⟩,⟨_,_,rfl,⟨a7,be,rfl,fh⟩,rfl⟩⟩⟩:=im
          refine⟨.one (.agg (NB a6 x143 bd a7 be)),rfl,fun n3 (lu:Kn 164 [(j,0),(q,0)] ((tA 143 (NB a6 x143 bd a7 be))::(tS 150 i x82.2.1.length k)::(tS 148 f x82.1.length g)::(tS 146 a9 x146.length bg)::(tA 142 (AA l y o m p))::(tI 16 x82.2.2.1)::(tI 13 x_v10)::(tP 12 1 0)::(tI 8 x35.2.1)::(Bt d x31 e a x28 b)) n3)=>hK _ _ ev.plOk ?_⟩
          obtain⟨x147,ex147,s⟩:=Ap s
          refine Dl 5 fun K hK=>?_
          refine wc [.c (.slice a9 x146.length bg)] lu ev (BB af ev.has x146 ff ex147) fun rg ov sn io c4 ew=>?_
          replace ak:=ak.mono (XU dx c4)
          obtain⟨cc,cg,rfl,fi⟩:=io
          refine⟨.one (.c (.slice cc x147.length cg)),rfl,fun n5 (lv:Kn 164 [(j,0),(q,0)] ((tS 147 cc x147.length cg)::(tA 143 (NB a6 x143 bd a7 be))::(tS 150 i x82.2.1.length k)::(tS 148 f x82.1.length g)::(tS 146 a9 x146.length bg)::(tA 142 (AA l y o m p))::(tI 16 x82.2.2.1)::(tI 13 x_v10)::(tP 12 1 0)::(tI 8 x35.2.1)::(Bt d x31 e a x28 b)) n5)=>hK _ _ ew.plOk ?_⟩
          obtain⟨x149,ex149,s⟩:=Ap s
          refine Dl 7 fun K hK=>?_
          refine wc [.c (.slice f x82.1.length g)] lv ew (BB af ew.has x82.1 ak ex149) fun rh ow sp ip c5 ex=>?_
          replace ao:=ao.mono (XU (XU dx c4) c5)
          obtain⟨cn,cp,rfl,fj⟩:=ip
          refine⟨.one (.c (.slice cn x149.length cp)),rfl,fun n6 (lx:Kn 164 [(j,0),(q,0)] ((tS 149 cn x149.length cp)::(tS 147 cc x147.length cg)::(tA 143 (NB a6 x143 bd a7 be))::(tS 150 i x82.2.1.length k)::(tS 148 f x82.1.length g)::(tS 146 a9 x146.length bg)::(tA 142 (AA l y o m p))::(tI 16 x82.2.2.1)::(tI 13 x_v10)::(tP 12 1 0)::(tI 8 x35.2.1)::(Bt d x31 e a x28 b)) n6)=>hK _ _ ex.plOk ?_⟩
          obtain⟨x151,ex151,s⟩:=Ap s
          refine Dl 9 fun K hK=>?_
          refine wc [.c (.slice i x82.2.1.length k)] lx ex (BB af ex.has x82.2.1 ao ex151) fun ri ja sq iq c6 ey=>?_
          replace fg:=fg.mono (XU (XU c4 c5) c6)
          replace fh:=fh.mono (XU (XU c4 c5) c6)
          replace fi:=fi.mono (XU c5 c6)
          replace fj:=fj.mono c6
          obtain⟨dh,dr,rfl,mx⟩:=iq
          refine⟨.one (.c (.slice dh x151.length dr)),rfl,fun n7 (ly:Kn 164 [(j,0),(q,0)] ((tS 151 dh x151.length dr)::(tS 149 cn x149.length cp)::(tS 147 cc x147.length cg)::(tA 143 (NB a6 x143 bd a7 be))::(tS 150 i x82.2.1.length k)::(tS 148 f x82.1.length g)::(tS 146 a9 x146.length bg)::(tA 142 (AA l y o m p))::(tI 16 x82.2.2.1)::(tI 13 x_v10)::(tP 12 1 0)::(tI 8 x35.2.1)::(Bt d x31 e a x28 b)) n7)=>hK _ _ ey.plOk ?_⟩
          obtain⟨x152,ex152,s⟩:=Ap s
          refine Dl 10 fun K hK=>?_
          refine wc [.agg (NB a6 x143 bd a7 be),.c (.slice cc x147.length cg),.c (.slice cn x149.length cp),.c (.slice dh x151.length dr)] ly ey (Gb af ey.has x143 ((Ab (Ae fg) (Ab (Ae fh) Ad)):rep ja x143 _) x147 fi x149 fj x151 mx ex152) fun rj ox sr ir mj av=>?_
          obtain⟨_,_,rfl,⟨cd,ch,rfl,o4⟩,rfl⟩:=ir
          refine⟨.tup [.c (.slice cd x152.1.length ch),.c (.int .i64 x152.2)],rfl,fun n8 (l0:Kn 164 [(j,0),(q,0)] ((152,.tup [.c (.slice cd x152.1.length ch),.c (.int .i64 x152.2)])::(tS 151 dh x151.length dr)::(tS 149 cn x149.length cp)::(tS 147 cc x147.length cg)::(tA 143 (NB a6 x143 bd a7 be))::(tS 150 i x82.2.1.length k)::(tS 148 f x82.1.length g)::(tS 146 a9 x146.length bg)::(tA 142 (AA l y o m p))::(tI 16 x82.2.2.1)::(tI 13 x_v10)::(tP 12 1 0)::(tI 8 x35.2.1)::(Bt d x31 e a x28 b)) n8)=>hK _ _ av.plOk ?_⟩
          refine Dr [11,12,13,14,15] [15,14,13,12,11,10,9,7,5,1,8,6,4,3,2,0] ((tI 21 x152.2)::(tS 20 cd x152.1.length ch)::(tI 16 x82.2.2.1)::(tI 13 x_v10)::(tP 12 1 0)::(tI 8 x35.2.1)::(Bt d x31 e a x28 b)) l0 av fun qe l1=>?_
          refine AU (by kernel_rfl) (XT (Aa (Rk 0 3 ((tB 157 (x152.2 != 0))::(tS 20 cd x152.1.length ch)::(tI 16 x82.2.2.1)::(tI 13 x_v10)::(tP 12 1 0)::(tI 8 x35.2.1)::(Bt d x31 e a x28 b)) l1 av fun hr gm=>?_)))
          rcases Bool.eq_false_or_eq_true ((x152.2 != 0)) with c3 | c3
          ·
           rw [c3,XW] at s
           have l2:Kn 164 [(j,0),(q,0)] ((tB 157 true)::(tS 20 cd x152.1.length ch)::(tI 16 x82.2.2.1)::(tI 13 x_v10)::(tP 12 1 0)::(tI 8 x35.2.1)::(Bt d x31 e a x28 b)) hr:=(gm.setB 157 true (by rfl) c3).kp
           refine Rk 3 5 ((tB 162 true)::(tI 13 x_v10)::(tP 12 1 0)::(tI 8 x35.2.1)::(Bt d x31 e a x28 b)) l2 av fun qg gn=>?_
           refine wf (wC true gn (fun hb=>?_) (fun hb=>?_))
           rotate_left
           ·
            cases hb
           refine XT (Aa (Rk 0 1 [tB 4 false] gn av fun qh l3=>?_))
           refine wf (wp_ret ?_)
           obtain rfl:=XZ s
           obtain rfl:=XZ H
           exact rt (.one (.c (.bool false))) l3 av rfl
          ·
           rw [c3,XV] at s
           have l4:Kn 164 [(j,0),(q,0)] ((tB 157 false)::(tS 20 cd x152.1.length ch)::(tI 16 x82.2.2.1)::(tI 13 x_v10)::(tP 12 1 0)::(tI 8 x35.2.1)::(Bt d x31 e a x28 b)) hr:=(gm.setB 157 false (by rfl) c3).kp
           refine Rk 3 5 ((tB 162 (((x152.1.length:Nat):Int) != x82.2.2.1))::(tI 13 x_v10)::(tP 12 1 0)::(tI 8 x35.2.1)::(Bt d x31 e a x28 b)) l4 av fun qi ee=>?_
           refine wf (wC ((((x152.1.length:Nat):Int) != x82.2.2.1)) ee (fun d8=>?_) (fun d8=>?_))
           ·
            rw [d8,XW] at s
            refine XT (Aa (Rk 0 1 [tB 4 false] ee av fun qj l6=>?_))
            refine wf (wp_ret ?_)
            obtain rfl:=XZ s
            obtain rfl:=XZ H
            exact rt (.one (.c (.bool false))) l6 av rfl
           ·
            rw [d8,XV] at s
            refine wp_skip (Aa (Rk 0 3 ((tI 13 (IntKind.i64.wrap (x_v10+1)))::(tP 12 1 0)::(tI 8 x35.2.1)::(Bt d x31 e a x28 b)) ee av fun qk l7=>?_))
            refine wf ?_
            exact XY af ⟨Nat.lt_succ_self _,XY (IntKind.i64.wrap (x_v10+1)) ⟨_,_,rfl,l7.kp,av,XU b2 (XU b3 (XU bh (XU b9 (XU aw (XU au (XU ap (XU an (XU bi (XU bj (XU dx (XU c4 (XU c5 (XU c6 mj))))))))))))),s⟩⟩
       ·
        rw [d5,XV] at s
        refine wp_exit ?_
        obtain rfl:=XZ s
        exact XY () ⟨_,_,rfl,ec.kp,bk,b2,rfl⟩
     ·
      rintro _ ss ⟨g9,fl,d0,rfl,l8,g3,o1,rfl⟩
      rw [Ex.bind_go] at H
      refine XT (Aa ?_)
      obtain⟨x163,ex163,H⟩:=Ap H
      refine wl fun K hK=>?_
      refine wc [] l8 g3 (Ds n g3.has  ex163) fun rl oy st iu o2 g4=>?_
      obtain rfl:=iu
      refine⟨.one (.c (.bool x163)),rfl,fun n9 (l9:Kn 164 [(j,0),(q,0)] [tB 163 x163] n9)=>hK _ _ ?_⟩
      refine Rk 1 1 [tB 4 x163] l9 g4 fun ql ma=>?_
      refine wf (wp_ret ?_)
      obtain rfl:=XZ H
      exact rt (.one (.c (.bool x163))) ma g4 rfl
end Go.Proofs.Ythcbemnflgjadaa
