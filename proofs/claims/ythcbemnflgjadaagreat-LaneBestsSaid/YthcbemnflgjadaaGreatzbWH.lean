/- Each call computes its plain function. -/
import Derived.Test.YthcbemnflgjadaaGreatProg
import Derived.Test.YthcbemnflgjadaaGreatzbP0
import Derived.Test.YthcbemnflgjadaaGreatzbWD
import Derived.Test.YthcbemnflgjadaaGreatzbWF
import Derived.Test.YthcbemnflgjadaaGreatzbWG
set_option linter.all false
namespace Go.Proofs.YthcbemnflgjadaaGreat
open Go Go.RowKit
open Rep (rep)
open KRep (kv)
open VRep (rv)
abbrev Pq (a b:Option Addr):List SC:=[.slice a 2 2,.slice b 4 4,.int .i64 0]
set_option maxRecDepth 100000 in
set_option maxHeartbeats 4000000 in
theorem HU (n:Nat) {h:Ac} {w:World} (hh:Db h w)  {r:Ag} (H:GZ n =some r) :
  Calls Tryz.prog 24 #[] w (Dd (fun h v=>∃ cs,v=.agg cs.toArray∧rep h r cs) h w):=by
 refine enter 8 [] Tryz.func24 rfl rfl rfl rfl fun t hk=>?_
 have hm:=Aj.begin h w hh
 unfold GZ at H
 refine XT (Aa (wl fun K hK=>?_))
 refine wa [.slice none 0 0,.slice none 0 0,.int .i64 0] hk hm fun c aj ao (ac:Kn 8 [(c,0)] [tP 0 0 0] aj) ae=>hK _ _ ?_
 refine wf (XT (Aa (wl fun K hK=>?_)))
 refine wS 3 1 [.int .i64 2,.int .i64 2] ac ae fun a al ap (ad:Kn 8 [(c,0)] [tS 1 a 2 2,tP 0 0 0] al) p=>?_
 have f:Af h ([2,2]:List Int) ([.int .i64 2,.int .i64 2]:List Value):=⟨_,_,rfl,(Ad:rep h (2:Int) _),⟨_,_,rfl,(Ad:rep h (2:Int) _),rfl⟩⟩
 refine hK _ _ ?_
 refine Rk 1 4 [tA 5 [.int .i64 150,.int .i64 160,.int .i64 10],tA 4 [.int .i64 125,.int .i64 140,.int .i64 30],tA 3 [.int .i64 110,.int .i64 130,.int .i64 20],tA 2 [.int .i64 100,.int .i64 120,.int .i64 40],tS 1 a 2 2,tP 0 0 0] ad p fun am x=>?_
 refine wl fun K hK=>?_
 refine wS 61 3 [.int .i64 100,.int .i64 120,.int .i64 40,.int .i64 110,.int .i64 130,.int .i64 20,.int .i64 125,.int .i64 140,.int .i64 30,.int .i64 150,.int .i64 160,.int .i64 10] x p fun b ai an (y:Kn 8 [(c,0)] [tS 6 b 4 4,tA 5 [.int .i64 150,.int .i64 160,.int .i64 10],tA 4 [.int .i64 125,.int .i64 140,.int .i64 30],tA 3 [.int .i64 110,.int .i64 130,.int .i64 20],tA 2 [.int .i64 100,.int .i64 120,.int .i64 40],tS 1 a 2 2,tP 0 0 0] ai) q=>?_
 have g:Af h ([BO.mk 100 120 40,BO.mk 110 130 20,BO.mk 125 140 30,BO.mk 150 160 10]:List BO) ([.int .i64 100,.int .i64 120,.int .i64 40,.int .i64 110,.int .i64 130,.int .i64 20,.int .i64 125,.int .i64 140,.int .i64 30,.int .i64 150,.int .i64 160,.int .i64 10]:List Value):=⟨_,_,rfl,((Ab Ad (Ab Ad Ad)):rep h ((BO.mk 100 120 40):BO) _),⟨_,_,rfl,((Ab Ad (Ab Ad Ad)):rep h ((BO.mk 110 130 20):BO) _),⟨_,_,rfl,((Ab Ad (Ab Ad Ad)):rep h ((BO.mk 125 140 30):BO) _),⟨_,_,rfl,((Ab Ad (Ab Ad Ad)):rep h ((BO.mk 150 160 10):BO) _),rfl⟩⟩⟩⟩
 refine hK _ _ ?_
 refine Rk 6 1 [tA 7 (Pq a b),tP 0 0 0] y q fun ak z=>?_
 refine wl fun K hK=>?_
 refine Eb 0 0 (.agg (Pq a b)) (Pq a b) z q fun u aa s=>hK _ _ ?_
 have ab:Kn 8 [(c,0)] [tP 0 0 0] ak:=aa.kp
 refine wf (wp_ret ?_)
 obtain⟨l,m,ag,d⟩:=s.settle (i:=0) rfl
 replace f:=f.mono m
 replace d:Aj ⟨w,h,A9⟩ l [(c,0)] [⟨Pq a b,some 33⟩] [⟨a,2,2,3,1,([.int .i64 2,.int .i64 2]:List Value),(([.int .i64 2,.int .i64 2]:List Value):List Value).length⟩,⟨b,4,4,61,3,([.int .i64 100,.int .i64 120,.int .i64 40,.int .i64 110,.int .i64 130,.int .i64 20,.int .i64 125,.int .i64 140,.int .i64 30,.int .i64 150,.int .i64 160,.int .i64 10]:List Value),0⟩] u:=d
 have k:At l a 2 ([2,2]:List Int):=⟨_,f,ag,s.rowCap (i:=0) rfl⟩
 obtain⟨e,o,ah,j⟩:=d.settle (i:=1) rfl
 replace k:=k.mono o
 replace g:=g.mono (XU m o)
 replace j:Aj ⟨w,h,A9⟩ e [(c,0)] [⟨Pq a b,some 33⟩] [⟨a,2,2,3,1,([.int .i64 2,.int .i64 2]:List Value),(([.int .i64 2,.int .i64 2]:List Value):List Value).length⟩,⟨b,4,4,61,3,([.int .i64 100,.int .i64 120,.int .i64 40,.int .i64 110,.int .i64 130,.int .i64 20,.int .i64 125,.int .i64 140,.int .i64 30,.int .i64 150,.int .i64 160,.int .i64 10]:List Value),(([.int .i64 100,.int .i64 120,.int .i64 40,.int .i64 110,.int .i64 130,.int .i64 20,.int .i64 125,.int .i64 140,.int .i64 30,.int .i64 150,.int .i64 160,.int .i64 10]:List Value):List Value).length⟩] u:=j
 have af:At e b 4 ([BO.mk 100 120 40,BO.mk 110 130 20,BO.mk 125 140 30,BO.mk 150 160 10]:List BO):=⟨_,g,ah,d.rowCap (i:=1) rfl⟩
 obtain rfl:=XZ H
 exact rt (.one (.agg (Pq a b))) ab j ⟨_,rfl,((Ab (Ae k) (Ab (Ae af) Ad)):rep e ((Ag.mk ([2,2]:List Int) ([BO.mk 100 120 40,BO.mk 110 130 20,BO.mk 125 140 30,BO.mk 150 160 10]:List BO) 0):Ag) _)⟩
abbrev Jk (a_a:Option Addr) (a:List Int) (c_a:Nat) (a_b:Option Addr) (b:List Int) (c_b:Nat):TM:=[tS 0 a_a a.length c_a,tS 1 a_b b.length c_b]
set_option maxRecDepth 100000 in
set_option maxHeartbeats 4000000 in
theorem Jl (n:Nat) {h:Ac} {w:World} (hh:Db h w) (a:List Int) {a_a:Option Addr} {c_a:Nat} (hr_a:At h a_a c_a a) (b:List Int) {a_b:Option Addr} {c_b:Nat} (hr_b:At h a_b c_b b) {r:Bool} (H:Gj n a b=some r) :
  Calls Tryz.prog 21 #[.slice a_a a.length c_a,.slice a_b b.length c_b] w (Dd (fun h v=>v=.bool r) h w):=by
 refine enter 26 [.c (.slice a_a a.length c_a),.c (.slice a_b b.length c_b)] Tryz.func21 rfl rfl rfl rfl fun t hk=>?_
 have hm:=Aj.begin h w hh
 unfold Gj at H
 refine XT (Aa (Rk 0 1 (Jk a_a a c_a a_b b c_b) hk hm fun bf an=>?_))
 refine wf (XT (XT (Aa (Rk 0 5 ((tB 10 (((a.length:Nat):Int) != ((b.length:Nat):Int)))::(Jk a_a a c_a a_b b c_b)) an hm fun bi u=>?_))))
 refine wf (wC ((((a.length:Nat):Int) != ((b.length:Nat):Int))) u (fun p=>?_) (fun p=>?_))
 ·
  rw [p,XW] at H
  refine XT (Aa (Rk 0 1 [tB 4 false] u hm fun bm az=>?_))
  refine wf (wp_ret ?_)
  obtain rfl:=XZ H
  exact rt (.one (.c (.bool false))) az hm rfl
 ·
  rw [p,XV] at H
  refine wp_skip (XT (XT (Aa (Rk 0 1 ((tI 5 0)::(Jk a_a a c_a a_b b c_b)) u hm fun bp a0=>?_))))
  refine wf ?_
  obtain⟨ag,ae,H⟩:=Ap H
  refine Aq (fun a' w'=>∃ (ai:Unit)(ab:Array Value)(k:Ac),a' = ⟨ab,[]⟩∧Kn 26 [] [] ab∧Aj ⟨w,h,A9⟩ k [] [] [] w'∧Ac.le h k∧ag=.go ai) ?_ ?_
  ·
   refine wp_block ?_
   refine Au (fun a9 a' w'=>∃ (x_v10:Int)(ac:Array Value)(l:Ac),a' = ⟨ac,[]⟩∧Kn 26 [] ((tI 5 x_v10)::(Jk a_a a c_a a_b b c_b)) ac∧Aj ⟨w,h,A9⟩ l [] [] [] w'∧Ac.le h l∧DA a9 a b x_v10=some ag) n ?_ ?_
   ·
    exact XY 0 ⟨_,_,rfl,a0.kp,hm,Ac.le_refl _,ae⟩
   ·
    rintro z _ bq ⟨x_v10,ac,l,rfl,ao,e,g,d⟩
    clear ae
    obtain _ | z:=z
    ·
     rw [DA] at d; cases d
    rw [DA] at d
    replace hr_a:=hr_a.mono g
    replace hr_b:=hr_b.mono g
    refine XT (XT (Aa (Rk 0 4 ((tB 14 (decide (x_v10<((a.length:Nat):Int))))::(tI 5 x_v10)::(Jk a_a a c_a a_b b c_b)) ao e fun bg s=>?_)))
    refine wf (wC (decide (x_v10<((a.length:Nat):Int))) s (fun m=>?_) (fun m=>?_))
    ·
     rw [m,XW] at d
     refine wp_skip (XT (wp_block (XT (Ax (by kernel_rfl) ?_))))
     replace e:=e.drew
     refine A3 [] [] [] ?_
     refine Dr [0,1] [1,0] ((tI 18 x_v10)::(tS 17 a_a a.length c_a)::(tI 5 x_v10)::(Jk a_a a c_a a_b b c_b)) s e fun bh ap=>?_
     obtain⟨x19,ex19,d⟩:=Ap d
     obtain⟨a1,a3,a7⟩:=Ak ex19
     obtain⟨i,aa,bc,aj,a5,al⟩:=hr_a.get (by decide) a7
     obtain rfl:=a5
     have y:=e.addPlc (b:=i) (o:=aa+(x_v10:Int).toNat*1) (cs:=[.int .i64 x19]) (fun j c hj=>al j _ (Am hj)) rfl (by kernel_rfl) (by kernel_rfl)
     refine AA 2 (x_v10) [.int .i64 x19] (fun _ _ _ _ _ h=>h) rfl rfl (rfl) rfl (by decide) (by kernel_rfl) (by kernel_rfl) ap e.plOk (by rfl) (by rfl) (by rfl) aj (by rfl) a1 a3 (by kernel_rfl) fun ba (aq:Kn 26 [(i,aa+(x_v10:Int).toNat*1)] ((tP 19 0 0)::(tI 18 x_v10)::(tS 17 a_a a.length c_a)::(tI 5 x_v10)::(Jk a_a a c_a a_b b c_b)) ba)=>?_
     refine Dr [3,4,5] (dn 5) ((tI 22 x_v10)::(tS 21 a_b b.length c_b)::(tI 20 x19)::(tI 5 x_v10)::(Jk a_a a c_a a_b b c_b)) aq y fun bj ar=>?_
     obtain⟨x23,ex23,d⟩:=Ap d
     obtain⟨a2,a4,a8⟩:=Ak ex23
     obtain⟨ad,ah,bd,ak,a6,am⟩:=hr_b.get (by decide) a8
     obtain rfl:=a6
     have f:=y.addPlc (b:=ad) (o:=ah+(x_v10:Int).toNat*1) (cs:=[.int .i64 x23]) (fun j c hj=>am j _ (Am hj)) rfl (by kernel_rfl) (by kernel_rfl)
     refine AA 6 (x_v10) [.int .i64 x23] (fun _ _ _ _ _ h=>h) rfl rfl (rfl) rfl (by decide) (by kernel_rfl) (by kernel_rfl) ar y.plOk (by rfl) (by rfl) (by rfl) ak (by rfl) a2 a4 (by kernel_rfl) fun bb (au:Kn 26 [(i,aa+(x_v10:Int).toNat*1),(ad,ah+(x_v10:Int).toNat*1)] ((tP 23 1 0)::(tI 22 x_v10)::(tS 21 a_b b.length c_b)::(tI 20 x19)::(tI 5 x_v10)::(Jk a_a a c_a a_b b c_b)) bb)=>?_
     refine Dr [7,8] (dn 8) ((tB 25 (x19 != x23))::(tI 5 x_v10)::(Jk a_a a c_a a_b b c_b)) au f fun bk x=>?_
     refine AE (by kernel_rfl) (wC ((x19 != x23)) x (fun q=>?_) (fun q=>?_))
     ·
      rw [q,XW] at d
      refine XT (Aa (Rk 0 1 [tB 4 false] x f fun bl av=>?_))
      refine wf (wp_ret ?_)
      obtain rfl:=XZ d
      obtain rfl:=XZ H
      exact rt (.one (.c (.bool false))) av f rfl
     ·
      rw [q,XV] at d
      refine wp_skip (Aa (Rk 0 3 ((tI 5 (IntKind.i64.wrap (x_v10+1)))::(Jk a_a a c_a a_b b c_b)) x f fun bn aw=>?_))
      refine wf ?_
      exact XY z ⟨Nat.lt_succ_self _,XY (IntKind.i64.wrap (x_v10+1)) ⟨_,_,rfl,(aw.keep [5,0,1] (by rfl)).cut 0 (by kernel_rfl),f.cutPl 0 (by kernel_rfl),g,d⟩⟩
    ·
     rw [m,XV] at d
     refine wp_exit ?_
     obtain rfl:=XZ d
     exact XY () ⟨_,_,rfl,s.kp,e,g,rfl⟩
  ·
   rintro _ br ⟨ai,ab,k,rfl,ax,af,be,rfl⟩
   rw [Ex.bind_go] at H
   refine XT (Aa (Rk 0 1 [tB 4 true] ax af fun bo ay=>?_))
   refine wf (wp_ret ?_)
   obtain rfl:=XZ H
   exact rt (.one (.c (.bool true))) ay af rfl
abbrev Tb (p:Option Addr) (x11:Ag) (q:Nat) (o:Option Addr) (s:Nat):List SC:=[.slice p x11.room.length q,.slice o x11.buses.length s,.int .i64 x11.broken]
abbrev Ud (x:Option Addr) (x18:Ag) (aa:Nat) (y:Option Addr) (ab:Nat):List SC:=[.slice x x18.room.length aa,.slice y x18.buses.length ab,.int .i64 x18.broken]
abbrev Tc (x27:(List Int)×Int×Int) (a:Option Addr) (b:Nat) (x20:(List Int)×(List Int)×Int×Int):TM:=[tI 9 x27.2.2,tI 8 x27.2.1,tS 7 a x27.1.length b,tI 6 x20.2.2.2,tI 5 x20.2.2.1]
set_option maxRecDepth 100000 in
set_option maxHeartbeats 4000000 in
theorem DR (n:Nat) {h:Ac} {w:World} (hh:Db h w)  {r:Bool} (H:Dt n =some r) :
  Calls Tryz.prog 6 #[] w (Dd (fun h v=>v=.bool r) h w):=by
 refine enter 59 [] Tryz.func6 rfl rfl rfl rfl fun t hk=>?_
 have hm:=Aj.begin h w hh
 unfold Dt at H
 refine XT (Aa (Rk 0 1 [] hk hm fun es df=>?_))
 refine wf (XT (Aa ?_))
 obtain⟨x11,ex11,H⟩:=Ap H
 refine wl fun K hK=>?_
 refine wc [] df hm (HU n hm.has  ex11) fun e8 j fi cq eo dv=>?_
 obtain⟨_,rfl,⟨_,_,rfl,⟨p,q,rfl,bk⟩,⟨_,_,rfl,⟨o,s,rfl,bm⟩,rfl⟩⟩⟩:=cq
 refine⟨.one (.agg (Tb p x11 q o s)),rfl,fun d8 (c2:Kn 59 [] [tA 11 (Tb p x11 q o s)] d8)=>hK _ _ ?_⟩
 refine wl fun K hK=>?_
 refine wS 3 1 [.int .i64 0,.int .i64 0,.int .i64 1,.int .i64 1] c2 dv fun g ea fg (dg:Kn 59 [] [tS 12 g 4 4,tA 11 (Tb p x11 q o s)] ea) dt=>?_
 have ac:Af j ([0,0,1,1]:List Int) ([.int .i64 0,.int .i64 0,.int .i64 1,.int .i64 1]:List Value):=⟨_,_,rfl,(Ad:rep j (0:Int) _),⟨_,_,rfl,(Ad:rep j (0:Int) _),⟨_,_,rfl,(Ad:rep j (1:Int) _),⟨_,_,rfl,(Ad:rep j (1:Int) _),rfl⟩⟩⟩⟩
 refine hK _ _ ?_
 refine wl fun K hK=>?_
 refine wS 3 1 [.int .i64 0,.int .i64 1,.int .i64 2,.int .i64 3] dg dt fun k ec ck (dl:Kn 59 [] [tS 13 k 4 4,tS 12 g 4 4,tA 11 (Tb p x11 q o s)] ec) cb=>?_
 have ad:Af j ([0,1,2,3]:List Int) ([.int .i64 0,.int .i64 1,.int .i64 2,.int .i64 3]:List Value):=⟨_,_,rfl,(Ad:rep j (0:Int) _),⟨_,_,rfl,(Ad:rep j (1:Int) _),⟨_,_,rfl,(Ad:rep j (2:Int) _),⟨_,_,rfl,(Ad:rep j (3:Int) _),rfl⟩⟩⟩⟩
 refine hK _ _ ?_
 obtain⟨bv,a7,d1,bb⟩:=cb.settle (i:=0) rfl
 replace ac:=ac.mono a7
 replace bb:Aj ⟨w,h,A9⟩ bv [] [] [⟨g,4,4,3,1,([.int .i64 0,.int .i64 0,.int .i64 1,.int .i64 1]:List Value),(([.int .i64 0,.int .i64 0,.int .i64 1,.int .i64 1]:List Value):List Value).length⟩,⟨k,4,4,3,1,([.int .i64 0,.int .i64 1,.int .i64 2,.int .i64 3]:List Value),0⟩] ck:=bb
 have ai:At bv g 4 ([0,0,1,1]:List Int):=⟨_,ac,d1,cb.rowCap (i:=0) rfl⟩
 obtain⟨bf,ax,d2,bc⟩:=bb.settle (i:=1) rfl
 replace bk:=bk.mono (XU a7 ax)
 replace bm:=bm.mono (XU a7 ax)
 replace ai:=ai.mono ax
 replace ad:=ad.mono (XU a7 ax)
 replace bc:Aj ⟨w,h,A9⟩ bf [] [] [⟨g,4,4,3,1,([.int .i64 0,.int .i64 0,.int .i64 1,.int .i64 1]:List Value),(([.int .i64 0,.int .i64 0,.int .i64 1,.int .i64 1]:List Value):List Value).length⟩,⟨k,4,4,3,1,([.int .i64 0,.int .i64 1,.int .i64 2,.int .i64 3]:List Value),(([.int .i64 0,.int .i64 1,.int .i64 2,.int .i64 3]:List Value):List Value).length⟩] ck:=bc
 have a0:At bf k 4 ([0,1,2,3]:List Int):=⟨_,ad,d2,bb.rowCap (i:=1) rfl⟩
 obtain⟨x14,ex14,H⟩:=Ap H
 refine wl fun K hK=>?_
 refine wc [.agg (Tb p x11 q o s),.c (.slice g 4 4),.c (.slice k 4 4),.c (.slice none 0 0)] dl bc (NW n bc.has x11 ((Ab (Ae bk) (Ab (Ae bm) Ad)):rep bf x11 _) ([0,0,1,1]:List Int) ai ([0,1,2,3]:List Int) a0 ([]:List Int) At.nil ex14) fun e9 el fh co a8 bi=>?_
 obtain⟨_,_,rfl,⟨d,e,rfl,a1⟩,rfl⟩:=co
 refine⟨.tup [.c (.slice d x14.1.length e),.c (.int .i64 x14.2)],rfl,fun ed (dm:Kn 59 [] [(14,.tup [.c (.slice d x14.1.length e),.c (.int .i64 x14.2)]),tS 13 k 4 4,tS 12 g 4 4,tA 11 (Tb p x11 q o s)] ed)=>hK _ _ ?_⟩
 refine Rk 4 5 [tI 2 x14.2,tS 1 d x14.1.length e] dm bi fun e3 dn=>?_
 refine wf (XT (Aa ?_))
 obtain⟨x18,ex18,H⟩:=Ap H
 refine wl fun K hK=>?_
 refine wc [] dn bi (HU n bi.has  ex18) fun fa an fj cp ay du=>?_
 obtain⟨_,rfl,⟨_,_,rfl,⟨x,aa,rfl,bn⟩,⟨_,_,rfl,⟨y,ab,rfl,bo⟩,rfl⟩⟩⟩:=cp
 refine⟨.one (.agg (Ud x x18 aa y ab)),rfl,fun ee (dp:Kn 59 [] [tA 18 (Ud x x18 aa y ab),tI 2 x14.2,tS 1 d x14.1.length e] ee)=>hK _ _ ?_⟩
 refine wl fun K hK=>?_
 refine wS 3 1 [.int .i64 0,.int .i64 1,.int .i64 1,.int .i64 0] dp du fun z ef ej (dq:Kn 59 [] [tS 19 z 4 4,tA 18 (Ud x x18 aa y ab),tI 2 x14.2,tS 1 d x14.1.length e] ef) cc=>?_
 have ae:Af an ([0,1,1,0]:List Int) ([.int .i64 0,.int .i64 1,.int .i64 1,.int .i64 0]:List Value):=⟨_,_,rfl,(Ad:rep an (0:Int) _),⟨_,_,rfl,(Ad:rep an (1:Int) _),⟨_,_,rfl,(Ad:rep an (1:Int) _),⟨_,_,rfl,(Ad:rep an (0:Int) _),rfl⟩⟩⟩⟩
 refine hK _ _ ?_
 obtain⟨bg,u,d3,bd⟩:=cc.settle (i:=2) rfl
 replace bn:=bn.mono u
 replace bo:=bo.mono u
 replace ae:=ae.mono u
 replace bd:Aj ⟨w,h,A9⟩ bg [] [] [⟨g,4,4,3,1,([.int .i64 0,.int .i64 0,.int .i64 1,.int .i64 1]:List Value),(([.int .i64 0,.int .i64 0,.int .i64 1,.int .i64 1]:List Value):List Value).length⟩,⟨k,4,4,3,1,([.int .i64 0,.int .i64 1,.int .i64 2,.int .i64 3]:List Value),(([.int .i64 0,.int .i64 1,.int .i64 2,.int .i64 3]:List Value):List Value).length⟩,⟨z,4,4,3,1,([.int .i64 0,.int .i64 1,.int .i64 1,.int .i64 0]:List Value),(([.int .i64 0,.int .i64 1,.int .i64 1,.int .i64 0]:List Value):List Value).length⟩] ej:=bd
 have a2:At bg z 4 ([0,1,1,0]:List Int):=⟨_,ae,d3,cc.rowCap (i:=2) rfl⟩
 obtain⟨x20,ex20,H⟩:=Ap H
 refine wl fun K hK=>?_
 refine wc [.agg (Ud x x18 aa y ab),.c (.slice z 4 4)] dq bd (JP n bd.has x18 ((Ab (Ae bn) (Ab (Ae bo) Ad)):rep bg x18 _) ([0,1,1,0]:List Int) a2 ex20) fun fb em fk cr ag bj=>?_
 obtain⟨_,_,_,_,rfl,⟨bp,br,rfl,ep⟩,⟨bq,bs,rfl,er⟩,rfl,rfl⟩:=cr
 refine⟨.tup [.c (.slice bp x20.1.length br),.c (.slice bq x20.2.1.length bs),.c (.int .i64 x20.2.2.1),.c (.int .i64 x20.2.2.2)],rfl,fun eg (dr:Kn 59 [] [(20,.tup [.c (.slice bp x20.1.length br),.c (.slice bq x20.2.1.length bs),.c (.int .i64 x20.2.2.1),.c (.int .i64 x20.2.2.2)]),tS 19 z 4 4,tA 18 (Ud x x18 aa y ab),tI 2 x14.2,tS 1 d x14.1.length e] eg)=>hK _ _ ?_⟩
 refine Rk 3 9 [tI 6 x20.2.2.2,tI 5 x20.2.2.1,tI 2 x14.2,tS 1 d x14.1.length e] dr bj fun e4 ds=>?_
 refine wf (XT (Aa ?_))
 obtain⟨x26,ex26,H⟩:=Ap H
 refine wl fun K hK=>?_
 refine wc [] ds bj (HU n bj.has  ex26) fun fc ct fl cs ah cd=>?_
 obtain⟨_,rfl,⟨_,_,rfl,⟨a4,a5,rfl,dw⟩,⟨_,_,rfl,⟨a3,a6,rfl,dx⟩,rfl⟩⟩⟩:=cs
 refine⟨.one (.agg [.slice a4 x26.room.length a5,.slice a3 x26.buses.length a6,.int .i64 x26.broken]),rfl,fun d4 (cu:Kn 59 [] [tA 26 [.slice a4 x26.room.length a5,.slice a3 x26.buses.length a6,.int .i64 x26.broken],tI 6 x20.2.2.2,tI 5 x20.2.2.1,tI 2 x14.2,tS 1 d x14.1.length e] d4)=>hK _ _ ?_⟩
 obtain⟨x27,ex27,H⟩:=Ap H
 refine wl fun K hK=>?_
 refine wc [.agg [.slice a4 x26.room.length a5,.slice a3 x26.buses.length a6,.int .i64 x26.broken]] cu cd (Ls n cd.has x26 ((Ab (Ae dw) (Ab (Ae dx) Ad)):rep ct x26 _) ex27) fun e5 be fd cl af ak=>?_
 replace ai:=ai.mono (XU (XU (XU (XU (XU a8 ay) u) ag) ah) af)
 replace a0:=a0.mono (XU (XU (XU (XU (XU a8 ay) u) ag) ah) af)
 replace a1:=a1.mono (XU (XU (XU (XU ay u) ag) ah) af)
 replace a2:=a2.mono (XU (XU ag ah) af)
 replace ac:=ac.mono (XU (XU (XU (XU (XU (XU ax a8) ay) u) ag) ah) af)
 replace ad:=ad.mono (XU (XU (XU (XU (XU a8 ay) u) ag) ah) af)
 replace ae:=ae.mono (XU (XU ag ah) af)
 obtain⟨_,_,_,rfl,⟨a,b,rfl,az⟩,rfl,rfl⟩:=cl
 refine⟨.tup [.c (.slice a x27.1.length b),.c (.int .i64 x27.2.1),.c (.int .i64 x27.2.2)],rfl,fun d5 (cv:Kn 59 [] [(27,.tup [.c (.slice a x27.1.length b),.c (.int .i64 x27.2.1),.c (.int .i64 x27.2.2)]),tA 26 [.slice a4 x26.room.length a5,.slice a3 x26.buses.length a6,.int .i64 x26.broken],tI 6 x20.2.2.2,tI 5 x20.2.2.1,tI 2 x14.2,tS 1 d x14.1.length e] d5)=>hK _ _ ?_⟩
 refine Rk 2 7 [tI 9 x27.2.2,tI 8 x27.2.1,tS 7 a x27.1.length b,tI 6 x20.2.2.2,tI 5 x20.2.2.1,tI 2 x14.2,tS 1 d x14.1.length e] cv ak fun et cw=>?_
 refine wf (XT (Aa (Rk 0 3 [tB 33 (x14.2 == 0),tI 9 x27.2.2,tI 8 x27.2.1,tS 7 a x27.1.length b,tI 6 x20.2.2.2,tI 5 x20.2.2.1,tS 1 d x14.1.length e] cw ak fun ce bw=>?_)))
 rcases Bool.eq_false_or_eq_true ((x14.2 == 0)) with ao | ao
 ·
  rw [ao,XW] at H
  have cx:Kn 59 [] [tB 33 true,tI 9 x27.2.2,tI 8 x27.2.1,tS 7 a x27.1.length b,tI 6 x20.2.2.2,tI 5 x20.2.2.1,tS 1 d x14.1.length e] ce:=(bw.setB 33 true (by rfl) ao).kp
  refine Rk 3 1 ((tS 34 d x14.1.length e)::(tB 33 true)::(Tc x27 a b x20)) cx ak fun eu bx=>?_
  refine AF _ rfl (Al bx (by kernel_rfl)) fun K hK=>?_
  refine wS 3 1 [.int .i64 0,.int .i64 2] bx ak fun aj d6 eh (bz:Kn 59 [] ((tS 35 aj 2 2)::(tS 34 d x14.1.length e)::(tB 33 true)::(Tc x27 a b x20)) d6) b8=>?_
  have aw:Af be ([0,2]:List Int) ([.int .i64 0,.int .i64 2]:List Value):=⟨_,_,rfl,(Ad:rep be (0:Int) _),⟨_,_,rfl,(Ad:rep be (2:Int) _),rfl⟩⟩
  refine hK _ _ ?_
  obtain⟨bt,l,dz,a9⟩:=b8.settle (i:=3) rfl
  replace a1:=a1.mono l
  replace aw:=aw.mono l
  replace a9:Aj ⟨w,h,A9⟩ bt [] [] [⟨g,4,4,3,1,([.int .i64 0,.int .i64 0,.int .i64 1,.int .i64 1]:List Value),(([.int .i64 0,.int .i64 0,.int .i64 1,.int .i64 1]:List Value):List Value).length⟩,⟨k,4,4,3,1,([.int .i64 0,.int .i64 1,.int .i64 2,.int .i64 3]:List Value),(([.int .i64 0,.int .i64 1,.int .i64 2,.int .i64 3]:List Value):List Value).length⟩,⟨z,4,4,3,1,([.int .i64 0,.int .i64 1,.int .i64 1,.int .i64 0]:List Value),(([.int .i64 0,.int .i64 1,.int .i64 1,.int .i64 0]:List Value):List Value).length⟩,⟨aj,2,2,3,1,([.int .i64 0,.int .i64 2]:List Value),(([.int .i64 0,.int .i64 2]:List Value):List Value).length⟩] eh:=a9
  have bl:At bt aj 2 ([0,2]:List Int):=⟨_,aw,dz,b8.rowCap (i:=3) rfl⟩
  obtain⟨x36,ex36,H⟩:=Ap H
  refine AF _ rfl (Al bz (by kernel_rfl)) fun K hK=>?_
  refine wc [.c (.slice d x14.1.length e),.c (.slice aj 2 2)] bz a9 (Jl n a9.has x14.1 a1 ([0,2]:List Int) bl ex36) fun e6 am fe cm m f=>?_
  replace ai:=ai.mono (XU l m)
  replace a0:=a0.mono (XU l m)
  replace a2:=a2.mono (XU l m)
  replace az:=az.mono (XU l m)
  replace bl:=bl.mono m
  replace ac:=ac.mono (XU l m)
  replace ad:=ad.mono (XU l m)
  replace ae:=ae.mono (XU l m)
  replace aw:=aw.mono m
  obtain rfl:=cm
  refine⟨.one (.c (.bool x36)),rfl,fun d7 (cy:Kn 59 [] ((tB 36 x36)::(tS 35 aj 2 2)::(tS 34 d x14.1.length e)::(tB 33 true)::(Tc x27 a b x20)) d7)=>hK _ _ ?_⟩
  refine Rk 6 2 ((tB 38 x36)::(Tc x27 a b x20)) cy f fun cf b0=>?_
  rcases Bool.eq_false_or_eq_true (x36) with ap | ap
  ·
   rw [Bc ap] at H
   have cz:Kn 59 [] ((tB 38 true)::(Tc x27 a b x20)) cf:=(b0.setB 38 true (by rfl) ap).kp
   refine Rk 8 4 [tB 42 (x20.2.2.2 == 0),tI 9 x27.2.2,tI 8 x27.2.1,tS 7 a x27.1.length b,tI 5 x20.2.2.1] cz f fun cg b1=>?_
   rcases Bool.eq_false_or_eq_true ((x20.2.2.2 == 0)) with aq | aq
   ·
    rw [aq,XW] at H
    have c0:Kn 59 [] [tB 42 true,tI 9 x27.2.2,tI 8 x27.2.1,tS 7 a x27.1.length b,tI 5 x20.2.2.1] cg:=(b1.setB 42 true (by rfl) aq).kp
    refine Rk 12 4 [tB 46 (x20.2.2.1 == 2),tI 9 x27.2.2,tI 8 x27.2.1,tS 7 a x27.1.length b] c0 f fun ch b2=>?_
    rcases Bool.eq_false_or_eq_true ((x20.2.2.1 == 2)) with ar | ar
    ·
     rw [ar,XW] at H
     have c1:Kn 59 [] [tB 46 true,tI 9 x27.2.2,tI 8 x27.2.1,tS 7 a x27.1.length b] ch:=(b2.setB 46 true (by rfl) ar).kp
     refine Rk 16 4 [tB 50 (x27.2.2 == 0),tI 8 x27.2.1,tS 7 a x27.1.length b] c1 f fun ci b3=>?_
     rcases Bool.eq_false_or_eq_true ((x27.2.2 == 0)) with au | au
     ·
      rw [au,XW] at H
      have c3:Kn 59 [] [tB 50 true,tI 8 x27.2.1,tS 7 a x27.1.length b] ci:=(b3.setB 50 true (by rfl) au).kp
      refine Rk 20 4 [tB 54 (x27.2.1 == 2),tS 7 a x27.1.length b] c3 f fun cj b4=>?_
      rcases Bool.eq_false_or_eq_true ((x27.2.1 == 2)) with av | av
      ·
       rw [av,XW] at H
       have c4:Kn 59 [] [tB 54 true,tS 7 a x27.1.length b] cj:=(b4.setB 54 true (by rfl) av).kp
       refine Rk 24 1 [tS 55 a x27.1.length b,tB 54 true] c4 f fun ev b5=>?_
       refine AF _ rfl (Al b5 (by kernel_rfl)) fun K hK=>?_
       refine wS 3 1 [.int .i64 0,.int .i64 0,.int .i64 1,.int .i64 1] b5 f fun al d9 ei (b6:Kn 59 [] [tS 56 al 4 4,tS 55 a x27.1.length b,tB 54 true] d9) b9=>?_
       have bh:Af am ([0,0,1,1]:List Int) ([.int .i64 0,.int .i64 0,.int .i64 1,.int .i64 1]:List Value):=⟨_,_,rfl,(Ad:rep am (0:Int) _),⟨_,_,rfl,(Ad:rep am (0:Int) _),⟨_,_,rfl,(Ad:rep am (1:Int) _),⟨_,_,rfl,(Ad:rep am (1:Int) _),rfl⟩⟩⟩⟩
       refine hK _ _ ?_
       obtain⟨bu,b7,d0,ba⟩:=b9.settle (i:=4) rfl
       replace az:=az.mono b7
       replace bh:=bh.mono b7
       replace ba:Aj ⟨w,h,A9⟩ bu [] [] [⟨g,4,4,3,1,([.int .i64 0,.int .i64 0,.int .i64 1,.int .i64 1]:List Value),(([.int .i64 0,.int .i64 0,.int .i64 1,.int .i64 1]:List Value):List Value).length⟩,⟨k,4,4,3,1,([.int .i64 0,.int .i64 1,.int .i64 2,.int .i64 3]:List Value),(([.int .i64 0,.int .i64 1,.int .i64 2,.int .i64 3]:List Value):List Value).length⟩,⟨z,4,4,3,1,([.int .i64 0,.int .i64 1,.int .i64 1,.int .i64 0]:List Value),(([.int .i64 0,.int .i64 1,.int .i64 1,.int .i64 0]:List Value):List Value).length⟩,⟨aj,2,2,3,1,([.int .i64 0,.int .i64 2]:List Value),(([.int .i64 0,.int .i64 2]:List Value):List Value).length⟩,⟨al,4,4,3,1,([.int .i64 0,.int .i64 0,.int .i64 1,.int .i64 1]:List Value),(([.int .i64 0,.int .i64 0,.int .i64 1,.int .i64 1]:List Value):List Value).length⟩] ei:=ba
       have dy:At bu al 4 ([0,0,1,1]:List Int):=⟨_,bh,d0,b9.rowCap (i:=4) rfl⟩
       obtain⟨x57,ex57,H⟩:=Ap H
       refine AF _ rfl (Al b6 (by kernel_rfl)) fun K hK=>?_
       refine wc [.c (.slice a x27.1.length b),.c (.slice al 4 4)] b6 ba (Jl n ba.has x27.1 az ([0,0,1,1]:List Int) dy ex57) fun e7 ek ff cn en ca=>?_
       obtain rfl:=cn
       refine⟨.one (.c (.bool x57)),rfl,fun eb (c5:Kn 59 [] [tB 57 x57,tS 56 al 4 4,tS 55 a x27.1.length b,tB 54 true] eb)=>hK _ _ ?_⟩
       refine Rk 27 2 [tB 0 x57] c5 ca fun ew c6=>?_
       refine wf (wp_ret ?_)
       obtain rfl:=XZ H
       exact rt (.one (.c (.bool x57))) c6 ca rfl
      ·
       rw [av,XV] at H
       have c7:Kn 59 [] [tB 54 false,tS 7 a x27.1.length b] cj:=(b4.setB 54 false (by rfl) av).kp
       refine Rk 24 5 [tB 0 false] c7 f fun ex c8=>?_
       refine wf (wp_ret ?_)
       obtain rfl:=XZ H
       exact rt (.one (.c (.bool false))) c8 f rfl
     ·
      rw [au,XV] at H
      have c9:Kn 59 [] [tB 50 false,tI 8 x27.2.1,tS 7 a x27.1.length b] ci:=(b3.setB 50 false (by rfl) au).kp
      refine Rk 20 9 [tB 0 false] c9 f fun ey da=>?_
      refine wf (wp_ret ?_)
      obtain rfl:=XZ H
      exact rt (.one (.c (.bool false))) da f rfl
    ·
     rw [ar,XV] at H
     have db:Kn 59 [] [tB 46 false,tI 9 x27.2.2,tI 8 x27.2.1,tS 7 a x27.1.length b] ch:=(b2.setB 46 false (by rfl) ar).kp
     refine Rk 16 13 [tB 0 false] db f fun ez dc=>?_
     refine wf (wp_ret ?_)
     obtain rfl:=XZ H
     exact rt (.one (.c (.bool false))) dc f rfl
   ·
    rw [aq,XV] at H
    have dd:Kn 59 [] [tB 42 false,tI 9 x27.2.2,tI 8 x27.2.1,tS 7 a x27.1.length b,tI 5 x20.2.2.1] cg:=(b1.setB 42 false (by rfl) aq).kp
    refine Rk 12 17 [tB 0 false] dd f fun e0 de=>?_
    refine wf (wp_ret ?_)
    obtain rfl:=XZ H
    exact rt (.one (.c (.bool false))) de f rfl
  ·
   rw [Bd ap] at H
   have dh:Kn 59 [] ((tB 38 false)::(Tc x27 a b x20)) cf:=(b0.setB 38 false (by rfl) ap).kp
   refine Rk 8 21 [tB 0 false] dh f fun e1 di=>?_
   refine wf (wp_ret ?_)
   obtain rfl:=XZ H
   exact rt (.one (.c (.bool false))) di f rfl
 ·
  rw [ao,XV] at H
  have dj:Kn 59 [] [tB 33 false,tI 9 x27.2.2,tI 8 x27.2.1,tS 7 a x27.1.length b,tI 6 x20.2.2.2,tI 5 x20.2.2.1,tS 1 d x14.1.length e] ce:=(bw.setB 33 false (by rfl) ao).kp
  refine Rk 3 26 [tB 0 false] dj ak fun e2 dk=>?_
  refine wf (wp_ret ?_)
  obtain rfl:=XZ H
  exact rt (.one (.c (.bool false))) dk ak rfl
set_option maxRecDepth 100000 in
set_option maxHeartbeats 4000000 in
theorem Jm (n:Nat) {h:Ac} {w:World} (hh:Db h w) (l:List Int) {a_l:Option Addr} {c_l:Nat} (hr_l:At h a_l c_l l) {r:List Int} (H:Ha n l=some r) :
  Calls Tryz.prog 9 #[.slice a_l l.length c_l] w (Dd (fun h v=>∃ a c,v=.slice a r.length c∧At h a c r) h w):=by
 refine enter 5 [.c (.slice a_l l.length c_l)] Tryz.func9 rfl rfl rfl rfl fun t hk=>?_
 have hm:=Aj.begin h w hh
 unfold Ha at H
 refine XT (Aa (Rk 0 1 [tS 0 a_l l.length c_l] hk hm fun ai y=>?_))
 refine wf (XT (Aa (Rk 0 1 [tS 3 a_l l.length c_l] y hm fun ak aa=>?_)))
 have p:Aj ⟨w,h,A9⟩ h [] [] [⟨none,0,0,3,1,[],0⟩] w:=hm.nilRow 3 1
 have s:Af h ([]:List Int) []:=Af.nil
 obtain⟨f,e,af,_⟩:=id hr_l
 obtain⟨x4,ex4,H⟩:=Ap H
 obtain⟨m,ab⟩:=AS ex4
 refine wl fun K hK=>?_
 refine AI 0 8 l.length _ (x4.length) _ f aa p rfl rfl (by decide) rfl (by rfl) (by kernel_rfl) (by rfl) (by rfl) (Af.len e) (af.cell p.has e.one) e.one (by rw [m]; simp <;> omega) (by rw [m]; exact ab) (by decide) fun b d q ag ah u (x:Kn 5 [] [tS 4 b x4.length d,tS 3 a_l l.length c_l] ag) j=>?_
 have g:Af h x4 ([]++f):=by rw [m]; exact Af.append s e
 obtain rfl:q=0:=Nat.le_zero.1 u
 refine hK _ _ ?_
 refine Rk 2 1 [tS 2 b x4.length d] x j fun aj z=>?_
 refine wf (wp_ret ?_)
 obtain⟨o,ac,ae,k⟩:=j.settle (i:=0) rfl
 replace g:=g.mono ac
 replace k:Aj ⟨w,h,A9⟩ o [] [] [⟨b,x4.length,d,3,1,[]++f,(([]++f):List Value).length⟩] ah:=k
 have ad:At o b d x4:=⟨_,g,ae,j.rowCap (i:=0) rfl⟩
 obtain rfl:=XZ H
 exact rt (.one (.c (.slice b x4.length d))) z k ⟨_,_,rfl,ad⟩
abbrev Og:List SC:=[.slice none 0 0,.slice none 0 0,.int .i64 0]
abbrev PQ (x22:BO):List SC:=[.int .i64 x22.lo,.int .i64 x22.hi,.int .i64 x22.turn]
abbrev Ue (l:Option Addr) (x8:List Int) (m:Nat) (y:Ag):List SC:=[.slice l x8.length m,.slice none 0 0,.int .i64 y.broken]
abbrev RY (l:Option Addr) (x8:List Int) (m:Nat) (s:Option Addr) (q:List BO) (u:Nat) (y:Ag):List SC:=[.slice l x8.length m,.slice s q.length u,.int .i64 y.broken]
abbrev MF (e:Option Addr) (y:Ag) (f:Nat) (g:Option Addr) (k:Nat):List SC:=[.slice e y.room.length f,.slice g y.buses.length k,.int .i64 y.broken]
abbrev Td (e:Option Addr) (y:Ag) (f:Nat) (g:Option Addr) (k:Nat):List Co:=[⟨MF e y f g k,some 25⟩,⟨Og,some 33⟩,⟨Og,some 33⟩]
abbrev O2:TM:=[tP 2 1 0,tP 1 0 0]
abbrev MG (x_v11:Int):TM:=(tI 4 x_v11)::(tP 3 2 0)::O2
abbrev Uf (y:Ag) (e:Option Addr) (f:Nat):TM:=(tI 10 y.broken)::(tS 7 e y.room.length f)::O2
set_option maxRecDepth 100000 in
set_option maxHeartbeats 4000000 in
theorem M5 (n:Nat) {h:Ac} {w:World} (hh:Db h w) (y:Ag) {cs_y:List Value} (hx_y:rep h y cs_y) {r:Ag} (H:Hb n y=some r) :
  Calls Tryz.prog 8 #[.agg cs_y.toArray] w (Dd (fun h v=>∃ cs,v=.agg cs.toArray∧rep h r cs) h w):=by
 obtain⟨_,_,rfl,⟨e,f,rfl,aw⟩,⟨_,_,rfl,⟨g,k,rfl,am⟩,rfl⟩⟩:=hx_y
 refine enter 37 [.agg (MF e y f g k)] Tryz.func8 rfl rfl rfl rfl fun t hk=>?_
 have hm:=Aj.begin h w hh
 unfold Hb at H
 refine XT (Aa (wl fun K hK=>?_))
 refine wb (.agg (MF e y f g k)) hk hm fun a du em (b6:Kn 37 [(a,0)] [tP 1 0 0,tA 0 (MF e y f g k)] du) c7=>hK _ _ ?_
 refine wl fun K hK=>?_
 refine wa Og b6 c7 fun d bu eg (ci:Kn 37 [(a,0),(d,0)] [tP 2 1 0,tP 1 0 0,tA 0 (MF e y f g k)] bu) au=>hK _ _ ?_
 have cn:Kn 37 [(a,0),(d,0)] O2 bu:=ci.kp
 refine wf (XT (Ax (by kernel_rfl) ?_))
 replace au:=au.drew
 refine A3 [] [(a,0),(d,0)] [⟨MF e y f g k,some 25⟩,⟨Og,some 33⟩] ?_
 refine Dr [0,1,3,4] [4,3,1,0] (Uf y e f) cn au fun ds co=>?_
 obtain⟨x8,ex8,H⟩:=Ap H
 have bh:Kn 37 [(a,0),(d,0),(0,0)] (Uf y e f) ds:=co.push (0,0) (by kernel_rfl)
 have a8:=au.addPlc (b:=0) (o:=0) (cs:=[]) (fun j c hj=>by simp at hj) rfl (by kernel_rfl) (by kernel_rfl)
 refine Si (e':=[(a,0),(d,0),(0,0)]) (pl':=[⟨MF e y f g k,some 25⟩,⟨Og,some 33⟩,⟨[],none⟩]) (fun _ hp=>hp.pop (Nat.le_of_eq rfl) (by kernel_rfl)) ?_
 refine FQ (fun W=>∀ (p:Nat),∀ (l:Option Addr),∀ (m:Nat),∀ a' w',(∃ (ax:Array Value)(z:Ac),a' = ⟨ax,[]⟩∧Kn 37 [(a,0),(d,0),(p,0)] ((tP 3 2 0)::(tA 11 (Ue l x8 m y))::O2) ax∧Aj ⟨w,h,A9⟩ z [(a,0),(d,0),(p,0)] (Td e y f g k) [] w'∧Ac.le h z∧At z l m x8)→W [(a,0),(d,0),(p,0)] (Td e y f g k) [5,2,6,4,3,1,0] a' w') ?_ (fun bt=>?_)
 ·
  intro p l m
  rintro _ ei ⟨ax,z,rfl,cp,c8,bj,a9⟩
  replace aw:=aw.mono bj
  replace am:=am.mono bj
  refine EZ 7 rfl (by kernel_rfl) (by decide) (rfl) (by kernel_rfl) fun K hK=>?_
  refine Eb 2 0 (.agg (Ue l x8 m y)) (Ue l x8 m y) cp c8 fun dz cq bp=>hK _ _ ?_
  refine A3 [] [(a,0),(d,0),(p,0)] [⟨MF e y f g k,some 25⟩,⟨Og,some 33⟩,⟨Ue l x8 m y,some 33⟩] ?_
  have cr:Kn 37 [(a,0),(d,0),(p,0)] ((tP 3 2 0)::O2) ax:=cq.kp
  refine AE (by kernel_rfl) (XT (XT (Aa (Rk 0 1 ((tI 4 0)::(tP 3 2 0)::O2) cr bp fun d5 ct=>?_))))
  refine wf ?_
  have c9:Aj ⟨w,h,A9⟩ z [(a,0),(d,0),(p,0)] [⟨MF e y f g k,some 25⟩,⟨Og,some 33⟩,⟨Ue l x8 m y,some 33⟩] [⟨none,0,0,61,3,[],0⟩] dz:=bp.nilRow 61 3
  have b3:Af z ([]:List BO) []:=Af.nil
  obtain⟨q,bf,H⟩:=Ap H
  refine Aq (fun a' w'=>∃ (s:Option Addr)(u:Nat)(an:List Value)(bc:Array Value)(ar:Ac),a' = ⟨bc,[]⟩∧Kn 37 [(a,0),(d,0),(p,0)] [tP 3 2 0,tP 2 1 0] bc∧Aj ⟨w,h,A9⟩ ar [(a,0),(d,0),(p,0)] [⟨MF e y f g k,some 25⟩,⟨Og,some 33⟩,⟨RY l x8 m s q u y,some 33⟩] [⟨s,q.length,u,61,3,an,0⟩] w'∧Ac.le z ar∧Af ar q an) ?_ ?_
  ·
   refine wp_block ?_
   refine Au (fun dj a' w'=>∃ (x_v10:List BO)(x_v11:Int)(aa:Option Addr)(ac:Nat)(af:List Value)(bd:Array Value)(ad:Ac),a' = ⟨bd,[]⟩∧Kn 37 [(a,0),(d,0),(p,0)] (MG x_v11) bd∧Aj ⟨w,h,A9⟩ ad [(a,0),(d,0),(p,0)] [⟨MF e y f g k,some 25⟩,⟨Og,some 33⟩,⟨[.slice l x8.length m,.slice aa x_v10.length ac,.int .i64 y.broken],some 33⟩] [⟨aa,x_v10.length,ac,61,3,af,0⟩] w'∧Ac.le z ad∧Af ad x_v10 af∧DB dj y x_v10 x_v11=some q) n ?_ ?_
   ·
    exact XY ([]:List BO) ⟨0,none,0,[],_,_,rfl,ct.kp,c9,Ac.le_refl _,b3,bf⟩
   ·
    rintro bb _ ej ⟨x_v10,x_v11,aa,ac,af,bd,ad,rfl,cu,av,a3,bg,x⟩
    clear bf
    obtain _ | bb:=bb
    ·
     rw [DB] at x; cases x
    rw [DB] at x
    replace am:=am.mono a3
    refine XT (XT (Aa (Rk 0 5 ((tB 16 (decide (x_v11<((y.buses.length:Nat):Int))))::(MG x_v11)) cu av fun d6 a2=>?_)))
    refine wf (wC (decide (x_v11<((y.buses.length:Nat):Int))) a2 (fun az=>?_) (fun az=>?_))
    ·
     rw [az,XW] at x
     refine wp_skip (XT (wp_block (XT (Aa (Rk 0 3 ((tI 21 x_v11)::(tS 20 g y.buses.length k)::(MG x_v11)) a2 av fun d7 cv=>?_)))))
     obtain⟨x22,ex22,x⟩:=Ap x
     obtain⟨db,dc,di⟩:=Ak ex22
     obtain⟨ab,ae,d0,b1,dh,b4⟩:=am.get (by decide) di
     obtain⟨_,_,rfl,rfl,⟨_,_,rfl,rfl,rfl⟩⟩:=dh
     have bq:=av.addPlc (b:=ab) (o:=ae+(x_v11:Int).toNat*3) (cs:=(PQ x22)) (fun j c hj=>b4 j _ (Am hj)) rfl (by kernel_rfl) (by kernel_rfl)
     refine AC 3 (x_v11) rfl rfl (rfl) rfl (by decide) cv (by rfl) (by rfl) (by rfl) b1 (by rfl) db dc (by kernel_rfl) fun dt (cw:Kn 37 [(a,0),(d,0),(p,0),(ab,ae+(x_v11:Int).toNat*3)] ((tP 22 3 0)::(tI 21 x_v11)::(tS 20 g y.buses.length k)::(MG x_v11)) dt)=>?_
     refine Rk 4 1 ((tA 23 (PQ x22))::(MG x_v11)) cw bq fun d8 cx=>?_
     refine wl fun K hK=>?_
     refine wa [.int .i64 0,.int .i64 0,.int .i64 0] cx bq fun aj bv ek (cy:Kn 37 [(a,0),(d,0),(p,0),(ab,ae+(x_v11:Int).toNat*3),(aj,0)] ((tP 5 4 0)::(tA 23 (PQ x22))::(MG x_v11)) bv) da=>hK _ _ ?_
     refine wl fun K hK=>?_
     refine Eb 4 0 (.agg (PQ x22)) (PQ x22) cy da fun el cz br=>hK _ _ ?_
     have c0:Kn 37 [(a,0),(d,0),(p,0),(ab,ae+(x_v11:Int).toNat*3),(aj,0)] ((tP 5 4 0)::(MG x_v11)) bv:=cz.kp
     refine wf (Aa (Rk 0 9 ((tA 32 (PQ x22))::(tS 25 aa x_v10.length ac)::(MG x_v11)) c0 br fun d9 c1=>?_))
     refine wl fun K hK=>?_
     refine wS 61 3 (PQ x22) c1 br fun be dv en (c2:Kn 37 [(a,0),(d,0),(p,0),(ab,ae+(x_v11:Int).toNat*3),(aj,0)] ((tS 33 be 1 1)::(tA 32 (PQ x22))::(tS 25 aa x_v10.length ac)::(MG x_v11)) dv) bs=>?_
     have a1:Af ad ([x22]:List BO) ([.int .i64 x22.lo,.int .i64 x22.hi,.int .i64 x22.turn]:List Value):=⟨_,_,rfl,((Ab Ad (Ab Ad Ad)):rep ad (x22:BO) _),rfl⟩
     refine hK _ _ ?_
     obtain⟨x34,ex34,x⟩:=Ap x
     obtain⟨ba,c3⟩:=AS ex34
     refine wl fun K hK=>?_
     refine AI 0 24 1 _ (x34.length) _ ([.int .i64 x22.lo,.int .i64 x22.hi,.int .i64 x22.turn]:List Value) c2 bs rfl rfl (by decide) rfl (by rfl) (by kernel_rfl) (by rfl) (by rfl) (Af.len a1) (bs.rowCell (i:=1) rfl) a1.one (by rw [ba]; simp <;> omega) (by rw [ba]; exact c3) (by decide) fun ag ak bw dk ec b5 (b7:Kn 37 [(a,0),(d,0),(p,0),(ab,ae+(x_v11:Int).toNat*3),(aj,0)] ((tS 34 ag x34.length ak)::(tS 33 be 1 1)::(tA 32 (PQ x22))::(tS 25 aa x_v10.length ac)::(MG x_v11)) dk) bk=>?_
     have b2:Af ad x34 (af++([.int .i64 x22.lo,.int .i64 x22.hi,.int .i64 x22.turn]:List Value)):=by rw [ba]; exact Af.append bg a1
     obtain rfl:bw=0:=Nat.le_zero.1 b5
     refine hK _ _ ?_
     refine Rk 11 1 ((tP 35 2 1)::(tS 34 ag x34.length ak)::(MG x_v11)) b7 bk fun dl b8=>?_
     refine wl fun K hK=>?_
     refine Eb 2 1 (.c (.slice ag x34.length ak)) [.slice l x8.length m,.slice ag x34.length ak,.int .i64 y.broken] b8 bk fun ed b9 bl=>hK _ _ ?_
     have ca:Kn 37 [(a,0),(d,0),(p,0),(ab,ae+(x_v11:Int).toNat*3),(aj,0)] (MG x_v11) dl:=b9.kp
     refine wf (Aa (Rk 0 3 ((tI 4 (IntKind.i64.wrap (x_v11+1)))::(tP 3 2 0)::O2) ca bl fun d2 cb=>?_))
     refine wf ?_
     exact XY bb ⟨Nat.lt_succ_self _,XY x34 ⟨IntKind.i64.wrap (x_v11+1),ag,ak,af++([.int .i64 x22.lo,.int .i64 x22.hi,.int .i64 x22.turn]:List Value),_,_,rfl,(cb.keep [4,3,2,1] (by rfl)).cut 3 (by kernel_rfl),(bl.cutRw 1).cutPl 3 (by kernel_rfl),a3,b2,x⟩⟩
    ·
     rw [az,XV] at x
     refine wp_exit ?_
     obtain rfl:=XZ x
     exact XY aa ⟨ac,af,_,_,rfl,a2.kp,av,a3,bg⟩
  ·
   rintro _ ee ⟨s,u,an,bc,ar,rfl,cc,bm,c4,a0⟩
   refine XT (Aa (Rk 0 1 [tA 36 (RY l x8 m s q u y),tP 2 1 0] cc bm fun dm cd=>?_))
   refine wl fun K hK=>?_
   refine Eb 1 0 (.agg (RY l x8 m s q u y)) (RY l x8 m s q u y) cd bm fun dw ce bn=>hK _ _ ?_
   have cf:Kn 37 [(a,0),(d,0),(p,0)] [tP 2 1 0] dm:=ce.kp
   refine wf (wp_ret ?_)
   obtain⟨ay,bi,dg,a4⟩:=bn.settle (i:=0) rfl
   replace a9:=a9.mono (XU c4 bi)
   replace a0:=a0.mono bi
   replace a4:Aj ⟨w,h,A9⟩ ay [(a,0),(d,0),(p,0)] [⟨MF e y f g k,some 25⟩,⟨RY l x8 m s q u y,some 33⟩,⟨RY l x8 m s q u y,some 33⟩] [⟨s,q.length,u,61,3,an,(an:List Value).length⟩] dw:=a4
   have dd:At ay s u q:=⟨_,a0,dg,bn.rowCap (i:=0) rfl⟩
   obtain rfl:=XZ H
   exact rt (.one (.agg (RY l x8 m s q u y))) cf a4 ⟨_,rfl,((Ab (Ae a9) (Ab (Ae dd) Ad)):rep ay ((Ag.mk x8 q y.broken):Ag) _)⟩
 refine TB 2 6 rfl rfl (by kernel_rfl) (by decide) (rfl) (rfl) (fun K hK=>?_) (fun K hK=>?_)
 ·
  refine wc [.c (.slice e y.room.length f)] bh a8 (Jm n a8.has y.room aw ex8) fun ea b0 ef bx c5 a5=>?_
  obtain⟨ah,al,rfl,de⟩:=bx
  refine⟨.one (.c (.slice ah x8.length al)),rfl,fun dn (cg:Kn 37 [(a,0),(d,0),(0,0)] ((tS 8 ah x8.length al)::(Uf y e f)) dn)=>hK _ _ a5.plOk ?_⟩
  refine Dr [5] [5,2,4,3,1,0] ((tA 11 [.slice ah x8.length al,.slice none 0 0,.int .i64 y.broken])::O2) cg a5 fun d3 ch=>?_
  refine Dl 6 fun K hK=>?_
  refine Vz 2 Og ch a5 fun ap dp dx (cj:Kn 37 [(a,0),(d,0),(ap,0)] ((tP 3 2 0)::(tA 11 [.slice ah x8.length al,.slice none 0 0,.int .i64 y.broken])::O2) dp) (bo:Aj ⟨w,h,A9⟩ b0 [(a,0),(d,0),(ap,0)] (Td e y f g k) [] dx)=>hK _ _ (A7.unset 2 rfl (by kernel_rfl) bo.plOk) (Si (e':=[(a,0),(d,0),(ap,0)]) (pl':=(Td e y f g k)) (fun _ hp=>hp.unset 2 rfl (by kernel_rfl)) ?_)
  refine GQ [5,2,6,4,3,1,0] (by kernel_rfl) (by rfl) (bt ap ah al _ _ ?_)
  exact XY _ ⟨_,rfl,cj.kp,bo,c5,de⟩
 ·
  refine Vz 2 Og bh a8 fun ai dq dy (ck:Kn 37 [(a,0),(d,0),(ai,0)] ((tP 3 2 0)::(Uf y e f)) dq) (a6:Aj ⟨w,h,A9⟩ h [(a,0),(d,0),(ai,0)] (Td e y f g k) [] dy)=>hK _ _ (A7.unset 2 rfl (by kernel_rfl) a6.plOk) (Si (e':=[(a,0),(d,0),(ai,0)]) (pl':=(Td e y f g k)) (fun _ hp=>hp.unset 2 rfl (by kernel_rfl)) ?_)
  refine Dl 2 fun K hK=>?_
  refine wc [.c (.slice e y.room.length f)] ck a6 (Jm n a6.has y.room aw ex8) fun eb d1 eh bz c6 a7=>?_
  obtain⟨ao,aq,rfl,df⟩:=bz
  refine⟨.one (.c (.slice ao x8.length aq)),rfl,fun dr (cl:Kn 37 [(a,0),(d,0),(ai,0)] ((tS 8 ao x8.length aq)::(tP 3 2 0)::(Uf y e f)) dr)=>hK _ _ a7.plOk ?_⟩
  refine Dr [5] [5,2,6,4,3,1,0] ((tA 11 [.slice ao x8.length aq,.slice none 0 0,.int .i64 y.broken])::(tP 3 2 0)::O2) cl a7 fun d4 cm=>?_
  refine GQ [5,2,6,4,3,1,0] (by kernel_rfl) (by rfl) (bt ai ao aq _ _ ?_)
  exact XY _ ⟨_,rfl,cm.kp,a7,c6,df⟩
set_option maxRecDepth 100000 in
set_option maxHeartbeats 4000000 in
theorem Fe (n:Nat) {h:Ac} {w:World} (hh:Db h w) (n_:Int) (low:Int) (high:Int) {r:Bool} (H:Gk n n_ low high=some r) :
  Calls Tryz.prog 32 #[.int .i64 n_,.int .i64 low,.int .i64 high] w (Dd (fun h v=>v=.bool r) h w):=by
 refine enter 15 [.c (.int .i64 n_),.c (.int .i64 low),.c (.int .i64 high)] Tryz.func32 rfl rfl rfl rfl fun t hk=>?_
 have hm:=Aj.begin h w hh
 unfold Gk at H
 refine XT (Aa (Rk 0 1 [tI 0 n_,tI 1 low,tI 2 high] hk hm fun k f=>?_))
 refine wf (XT (Aa (Rk 0 4 [tB 10 (decide (n_≥low)),tI 0 n_,tI 2 high] f hm fun d b=>?_)))
 rcases Bool.eq_false_or_eq_true (decide (n_≥low)) with a | a
 ·
  rw [a,XW] at H
  have g:Kn 15 [] [tB 10 true,tI 0 n_,tI 2 high] d:=(b.setB 10 true (by rfl) a).kp
  refine Rk 4 5 [tB 6 (decide (n_≤high))] g hm fun m i=>?_
  refine wf (wp_ret ?_)
  obtain rfl:=XZ H
  exact rt (.one (.c (.bool (decide (n_≤high))))) i hm rfl
 ·
  rw [a,XV] at H
  have j:Kn 15 [] [tB 10 false,tI 0 n_,tI 2 high] d:=(b.setB 10 false (by rfl) a).kp
  refine Rk 4 5 [tB 6 false] j hm fun l e=>?_
  refine wf (wp_ret ?_)
  obtain rfl:=XZ H
  exact rt (.one (.c (.bool false))) e hm rfl
abbrev Hr (x51:BO):List SC:=[.int .i64 x51.lo,.int .i64 x51.hi,.int .i64 x51.turn]
abbrev G1 (a d e:Nat) (x_v20:Int) (i:Nat):AG:=[(a,0),(d,e+(x_v20:Int).toNat*3),(i,0)]
abbrev Hs (m:Option Addr) (y:Ag) (p:Nat) (f:Option Addr) (g:Nat):List SC:=[.slice m y.room.length p,.slice f y.buses.length g,.int .i64 y.broken]
abbrev Ef (x_v20:Int):TM:=[tP 5 2 0,tI 4 x_v20,tP 1 0 0]
set_option maxRecDepth 100000 in
set_option maxHeartbeats 4000000 in
theorem HV (n:Nat) {h:Ac} {w:World} (hh:Db h w) (y:Ag) {cs_y:List Value} (hx_y:rep h y cs_y) {r:Int} (H:EW n y=some r) :
  Calls Tryz.prog 18 #[.agg cs_y.toArray] w (Dd (fun h v=>v=.int .i64 r) h w):=by
 obtain⟨_,_,rfl,⟨m,p,rfl,q⟩,⟨_,_,rfl,⟨f,g,rfl,l⟩,rfl⟩⟩:=hx_y
 refine enter 84 [.agg (Hs m y p f g)] Tryz.func18 rfl rfl rfl rfl fun t hk=>?_
 have hm:=Aj.begin h w hh
 unfold EW at H
 refine XT (Aa (wl fun K hK=>?_))
 refine wb (.agg (Hs m y p f g)) hk hm fun a fj hc (db:Kn 84 [(a,0)] [tP 1 0 0,tA 0 (Hs m y p f g)] fj) ad=>hK _ _ ?_
 refine Rk 1 1 [tP 1 0 0] db ad fun fx dh=>?_
 refine wf (XT (XT ?_))
 obtain⟨cm,ap,H⟩:=Ap H
 refine Aq (fun a' w'=>∃ (bu:Array Value)(ar:Ac),a' = ⟨bu,[]⟩∧Kn 84 [(a,0)] [tP 1 0 0,tB 16 cm] bu∧Aj ⟨w,h,A9⟩ ar [(a,0)] [⟨Hs m y p f g,some 25⟩] [] w'∧Ac.le h ar) ?_ ?_
 ·
  refine Aa (Rk 0 5 [tB 11 (decide (((y.room.length:Nat):Int)>3)),tP 1 0 0] dh ad fun cx b7=>?_)
  rcases Bool.eq_false_or_eq_true (decide (((y.room.length:Nat):Int)>3)) with ak | ak
  ·
   rw [ak,XW] at ap
   have d0:Kn 84 [(a,0)] [tB 11 true,tP 1 0 0] cx:=(b7.setB 11 true (by rfl) ak).kp
   refine Rk 5 5 [tB 16 true,tP 1 0 0] d0 ad fun f8 d4=>?_
   refine wf ?_
   obtain rfl:=XZ ap
   exact XY _ ⟨_,rfl,d4.kp,ad,Ac.le_refl _⟩
  ·
   rw [ak,XV] at ap
   have d7:Kn 84 [(a,0)] [tB 11 false,tP 1 0 0] cx:=(b7.setB 11 false (by rfl) ak).kp
   refine Rk 5 5 [tB 16 (decide (((y.buses.length:Nat):Int)>8)),tP 1 0 0] d7 ad fun gb eb=>?_
   refine wf ?_
   obtain rfl:=XZ ap
   exact XY _ ⟨_,rfl,eb.kp,ad,Ac.le_refl _⟩
 ·
  rintro _ g8 ⟨bu,ar,rfl,bj,aa,cd⟩
  replace q:=q.mono cd
  replace l:=l.mono cd
  refine wC (cm) bj (fun bb=>?_) (fun bb=>?_)
  ·
   rw [Bc bb] at H
   refine XT (Aa (Rk 0 1 [tI 2 3] bj aa fun gi eg=>?_))
   refine wf (wp_ret ?_)
   obtain rfl:=XZ H
   exact rt (.one (.c (.int .i64 3))) eg aa rfl
  ·
   rw [Bd bb] at H
   refine wp_skip (XT (XT ?_))
   obtain⟨cp,ac,H⟩:=Ap H
   refine Aq (fun a' w'=>∃ (bz:Array Value)(ag:Ac),a' = ⟨bz,[]⟩∧Kn 84 [(a,0)] [tP 1 0 0,tB 26 cp] bz∧Aj ⟨w,h,A9⟩ ag [(a,0)] [⟨Hs m y p f g,some 25⟩] [] w'∧Ac.le ar ag) ?_ ?_
   ·
    refine Aa (Rk 0 5 [tB 21 (decide (((y.room.length:Nat):Int)<1)),tP 1 0 0] bj aa fun c0 ca=>?_)
    rcases Bool.eq_false_or_eq_true (decide (((y.room.length:Nat):Int)<1)) with al | al
    ·
     rw [al,XW] at ac
     have eh:Kn 84 [(a,0)] [tB 21 true,tP 1 0 0] c0:=(ca.setB 21 true (by rfl) al).kp
     refine Rk 5 5 [tB 26 true,tP 1 0 0] eh aa fun gj ei=>?_
     refine wf ?_
     obtain rfl:=XZ ac
     exact XY _ ⟨_,rfl,ei.kp,aa,Ac.le_refl _⟩
    ·
     rw [al,XV] at ac
     have ej:Kn 84 [(a,0)] [tB 21 false,tP 1 0 0] c0:=(ca.setB 21 false (by rfl) al).kp
     refine Rk 5 2 [tI 23 y.broken,tB 21 false,tP 1 0 0] ej aa fun gk cb=>?_
     obtain⟨x24,ex24,ac⟩:=Ap ac
     refine AF _ rfl (Al cb (by kernel_rfl)) fun K hK=>?_
     refine wc [.c (.int .i64 y.broken),.c (.int .i64 0),.c (.int .i64 2)] cb aa (Fe n aa.has y.broken 0 2 ex24) fun gv fq g9 c4 ew ck=>?_
     obtain rfl:=c4
     refine⟨.one (.c (.bool x24)),rfl,fun fi (ek:Kn 84 [(a,0)] [tB 24 x24,tI 23 y.broken,tB 21 false,tP 1 0 0] fi)=>hK _ _ ?_⟩
     refine Rk 8 2 [tB 26 (!x24),tP 1 0 0] ek ck fun gl el=>?_
     refine wf ?_
     obtain rfl:=XZ ac
     exact XY _ ⟨_,rfl,el.kp,ck,ew⟩
   ·
    rintro _ ha ⟨bz,ag,rfl,bk,ay,ce⟩
    replace q:=q.mono ce
    replace l:=l.mono ce
    refine wC (cp) bk (fun bc=>?_) (fun bc=>?_)
    ·
     rw [Bc bc] at H
     refine XT (Aa (Rk 0 1 [tI 2 1] bk ay fun gm em=>?_))
     refine wf (wp_ret ?_)
     obtain rfl:=XZ H
     exact rt (.one (.c (.int .i64 1))) em ay rfl
    ·
     rw [Bd bc] at H
     refine wp_skip (XT (XT (Aa (Rk 0 1 [tI 3 0,tP 1 0 0] bk ay fun gn en=>?_))))
     refine wf ?_
     obtain⟨cq,b5,H⟩:=Ap H
     refine Aq (fun a' w'=>∃ (cv:Unit)(b0:Array Value)(ah:Ac),a' = ⟨b0,[]⟩∧Kn 84 [(a,0)] [tP 1 0 0] b0∧Aj ⟨w,h,A9⟩ ah [(a,0)] [⟨Hs m y p f g,some 25⟩] [] w'∧Ac.le ag ah∧cq=.go cv) ?_ ?_
     ·
      refine wp_block ?_
      refine Au (fun fc a' w'=>∃ (x_v10:Int)(b1:Array Value)(a5:Ac),a' = ⟨b1,[]⟩∧Kn 84 [(a,0)] [tI 3 x_v10,tP 1 0 0] b1∧Aj ⟨w,h,A9⟩ a5 [(a,0)] [⟨Hs m y p f g,some 25⟩] [] w'∧Ac.le ag a5∧Di fc y x_v10=some cq) n ?_ ?_
      ·
       exact XY 0 ⟨_,_,rfl,en.kp,ay,Ac.le_refl _,b5⟩
      ·
       rintro a0 _ hb ⟨x_v10,b1,a5,rfl,eo,az,av,s⟩
       clear b5
       obtain _ | a0:=a0
       ·
        rw [Di] at s; cases s
       rw [Di] at s
       replace q:=q.mono av
       replace l:=l.mono av
       refine XT (XT (Aa (Rk 0 5 [tB 31 (decide (x_v10<((y.room.length:Nat):Int))),tI 3 x_v10,tP 1 0 0] eo az fun gp bl=>?_)))
       refine wf (wC (decide (x_v10<((y.room.length:Nat):Int))) bl (fun bd=>?_) (fun bd=>?_))
       ·
        rw [bd,XW] at s
        refine wp_skip (XT (wp_block (XT (Aa (Rk 0 3 [tI 36 x_v10,tS 35 m y.room.length p,tI 3 x_v10,tP 1 0 0] bl az fun gq ep=>?_)))))
        obtain⟨x37,ex37,s⟩:=Ap s
        obtain⟨e0,e3,e9⟩:=Ak ex37
        obtain⟨a1,br,fn,c7,e6,da⟩:=q.get (by decide) e9
        obtain rfl:=e6
        have bp:=az.addPlc (b:=a1) (o:=br+(x_v10:Int).toNat*1) (cs:=[.int .i64 x37]) (fun j c hj=>da j _ (Am hj)) rfl (by kernel_rfl) (by kernel_rfl)
        refine AC 3 (x_v10) rfl rfl (rfl) rfl (by decide) ep (by rfl) (by rfl) (by rfl) c7 (by rfl) e0 e3 (by kernel_rfl) fun fk (er:Kn 84 [(a,0),(a1,br+(x_v10:Int).toNat*1)] [tP 37 1 0,tI 36 x_v10,tS 35 m y.room.length p,tI 3 x_v10,tP 1 0 0] fk)=>?_
        refine Rk 4 1 [tI 38 x37,tI 3 x_v10,tP 1 0 0] er bp fun gr es=>?_
        obtain⟨x39,ex39,s⟩:=Ap s
        refine wl fun K hK=>?_
        refine wc [.c (.int .i64 x37),.c (.int .i64 0),.c (.int .i64 8)] es bp (Fe a0 bp.has x37 0 8 ex39) fun gw fr gx c1 et an=>?_
        obtain rfl:=c1
        refine⟨.one (.c (.bool x39)),rfl,fun fd (dc:Kn 84 [(a,0),(a1,br+(x_v10:Int).toNat*1)] [tB 39 x39,tI 38 x37,tI 3 x_v10,tP 1 0 0] fd)=>hK _ _ ?_⟩
        refine Rk 6 1 [tB 40 (!x39),tI 3 x_v10,tP 1 0 0] dc an fun ft be=>?_
        refine wf (wC ((!x39)) be (fun a6=>?_) (fun a6=>?_))
        ·
         rw [a6,XW] at s
         refine XT (Aa (Rk 0 1 [tI 2 1] be an fun fu dd=>?_))
         refine wf (wp_ret ?_)
         obtain rfl:=XZ s
         obtain rfl:=XZ H
         exact rt (.one (.c (.int .i64 1))) dd an rfl
        ·
         rw [a6,XV] at s
         refine wp_skip (Aa (Rk 0 3 [tI 3 (IntKind.i64.wrap (x_v10+1)),tP 1 0 0] be an fun fv de=>?_))
         refine wf ?_
         exact XY a0 ⟨Nat.lt_succ_self _,XY (IntKind.i64.wrap (x_v10+1)) ⟨_,_,rfl,(de.keep [3,1] (by rfl)).cut 1 (by kernel_rfl),an.cutPl 1 (by kernel_rfl),XU av et,s⟩⟩
       ·
        rw [bd,XV] at s
        refine wp_exit ?_
        obtain rfl:=XZ s
        exact XY () ⟨_,_,rfl,bl.kp,az,av,rfl⟩
     ·
      rintro _ gy ⟨cv,b0,ah,rfl,df,cf,cc,rfl⟩
      rw [Ex.bind_go] at H
      replace q:=q.mono cc
      replace l:=l.mono cc
      refine XT (XT (Aa (Rk 0 1 [tI 4 0,tP 1 0 0] df cf fun fw dg=>?_)))
      refine wf ?_
      obtain⟨cl,b3,H⟩:=Ap H
      refine Aq (fun a' w'=>∃ (ct:Unit)(bs:Array Value)(a2:Ac),a' = ⟨bs,[]⟩∧Kn 84 [(a,0)] [] bs∧Aj ⟨w,h,A9⟩ a2 [(a,0)] [⟨Hs m y p f g,some 25⟩] [] w'∧Ac.le ah a2∧cl=.go ct) ?_ ?_
      ·
       refine wp_block ?_
       refine Au (fun fa a' w'=>∃ (x_v20:Int)(bt:Array Value)(aq:Ac),a' = ⟨bt,[]⟩∧Kn 84 [(a,0)] [tI 4 x_v20,tP 1 0 0] bt∧Aj ⟨w,h,A9⟩ aq [(a,0)] [⟨Hs m y p f g,some 25⟩] [] w'∧Ac.le ah aq∧Dk fa y x_v20=some cl) n ?_ ?_
       ·
        exact XY 0 ⟨_,_,rfl,dg.kp,cf,Ac.le_refl _,b3⟩
       ·
        rintro ae _ gz ⟨x_v20,bt,aq,rfl,di,aw,au,k⟩
        clear b3
        obtain _ | ae:=ae
        ·
         rw [Dk] at k; cases k
        rw [Dk] at k
        replace q:=q.mono au
        replace l:=l.mono au
        refine XT (XT (Aa (Rk 0 5 [tB 45 (decide (x_v20<((y.buses.length:Nat):Int))),tI 4 x_v20,tP 1 0 0] di aw fun fy bf=>?_)))
        refine wf (wC (decide (x_v20<((y.buses.length:Nat):Int))) bf (fun a7=>?_) (fun a7=>?_))
        ·
         rw [a7,XW] at k
         refine wp_skip (XT (wp_block (XT (Aa (Rk 0 3 [tI 50 x_v20,tS 49 f y.buses.length g,tI 4 x_v20,tP 1 0 0] bf aw fun fz dj=>?_)))))
         obtain⟨x51,ex51,k⟩:=Ap k
         obtain⟨ey,e1,e7⟩:=Ak ex51
         obtain⟨d,e,fl,c5,e4,c8⟩:=l.get (by decide) e7
         obtain⟨_,_,rfl,rfl,⟨_,_,rfl,rfl,rfl⟩⟩:=e4
         have cg:=aw.addPlc (b:=d) (o:=e+(x_v20:Int).toNat*3) (cs:=(Hr x51)) (fun j c hj=>c8 j _ (Am hj)) rfl (by kernel_rfl) (by kernel_rfl)
         refine AC 3 (x_v20) rfl rfl (rfl) rfl (by decide) dj (by rfl) (by rfl) (by rfl) c5 (by rfl) ey e1 (by kernel_rfl) fun fe (dk:Kn 84 [(a,0),(d,e+(x_v20:Int).toNat*3)] [tP 51 1 0,tI 50 x_v20,tS 49 f y.buses.length g,tI 4 x_v20,tP 1 0 0] fe)=>?_
         refine Rk 4 1 [tA 52 (Hr x51),tI 4 x_v20,tP 1 0 0] dk cg fun f0 dl=>?_
         refine wl fun K hK=>?_
         refine wa [.int .i64 0,.int .i64 0,.int .i64 0] dl cg fun i cw g0 (dm:Kn 84 (G1 a d e x_v20 i) [tP 5 2 0,tA 52 (Hr x51),tI 4 x_v20,tP 1 0 0] cw) ex=>hK _ _ ?_
         refine wl fun K hK=>?_
         refine Eb 2 0 (.agg (Hr x51)) (Hr x51) dm ex fun g1 dp bo=>hK _ _ ?_
         have dq:Kn 84 (G1 a d e x_v20 i) (Ef x_v20) cw:=dp.kp
         refine wf (XT (XT ?_))
         obtain⟨cn,x,k⟩:=Ap k
         refine Aq (fun a' w'=>∃ (bv:Array Value)(af:Ac),a' = ⟨bv,[]⟩∧Kn 84 (G1 a d e x_v20 i) [tP 5 2 0,tI 4 x_v20,tP 1 0 0,tB 69 cn] bv∧Aj ⟨w,h,A9⟩ af (G1 a d e x_v20 i) [⟨Hs m y p f g,some 25⟩,⟨Hr x51,none⟩,⟨Hr x51,some 66⟩] [] w'∧Ac.le aq af) ?_ ?_
         ·
          refine Aa (Rk 0 4 ((tI 56 x51.hi)::(tI 54 x51.lo)::(Ef x_v20)) dq bo fun f1 dr=>?_)
          obtain⟨x57,ex57,x⟩:=Ap x
          refine wl fun K hK=>?_
          refine wc [.c (.int .i64 x51.lo),.c (.int .i64 0),.c (.int .i64 x51.hi)] dr bo (Fe ae bo.has x51.lo 0 x51.hi ex57) fun gs fo g2 c2 am z=>?_
          replace q:=q.mono am
          replace l:=l.mono am
          obtain rfl:=c2
          refine⟨.one (.c (.bool x57)),rfl,fun ff (ds:Kn 84 (G1 a d e x_v20 i) ((tB 57 x57)::(tI 56 x51.hi)::(tI 54 x51.lo)::(Ef x_v20)) ff)=>hK _ _ ?_⟩
          refine Rk 5 2 ((tB 59 (!x57))::(Ef x_v20)) ds z fun cy b6=>?_
          rcases Bool.eq_false_or_eq_true ((!x57)) with ai | ai
          ·
           rw [ai,XW] at x
           have dt:Kn 84 (G1 a d e x_v20 i) ((tB 59 true)::(Ef x_v20)) cy:=(b6.setB 59 true (by rfl) ai).kp
           refine Rk 7 10 ((tB 69 true)::(Ef x_v20)) dt z fun f2 du=>?_
           refine wf ?_
           obtain rfl:=XZ x
           exact XY _ ⟨_,rfl,du.kp,z,am⟩
          ·
           rw [ai,XV] at x
           have dv:Kn 84 (G1 a d e x_v20 i) ((tB 59 false)::(Ef x_v20)) cy:=(b6.setB 59 false (by rfl) ai).kp
           refine Rk 7 5 ((tB 64 (decide (x51.hi>2000)))::(Ef x_v20)) dv z fun cz b8=>?_
           rcases Bool.eq_false_or_eq_true (decide (x51.hi>2000)) with aj | aj
           ·
            rw [aj,XW] at x
            have dw:Kn 84 (G1 a d e x_v20 i) ((tB 64 true)::(Ef x_v20)) cz:=(b8.setB 64 true (by rfl) aj).kp
            refine Rk 12 5 ((tB 69 true)::(Ef x_v20)) dw z fun f3 dx=>?_
            refine wf ?_
            obtain rfl:=XZ x
            exact XY _ ⟨_,rfl,dx.kp,z,am⟩
           ·
            rw [aj,XV] at x
            have dy:Kn 84 (G1 a d e x_v20 i) ((tB 64 false)::(Ef x_v20)) cz:=(b8.setB 64 false (by rfl) aj).kp
            refine Rk 12 2 ((tI 66 x51.turn)::(tB 64 false)::(Ef x_v20)) dy z fun f4 b9=>?_
            obtain⟨x67,ex67,x⟩:=Ap x
            refine AF _ rfl (Al b9 (by kernel_rfl)) fun K hK=>?_
            refine wc [.c (.int .i64 x51.turn),.c (.int .i64 0),.c (.int .i64 2000)] b9 z (Fe ae z.has x51.turn 0 2000 ex67) fun gu fp g3 c3 eu ch=>?_
            obtain rfl:=c3
            refine⟨.one (.c (.bool x67)),rfl,fun fg (dz:Kn 84 (G1 a d e x_v20 i) ((tB 67 x67)::(tI 66 x51.turn)::(tB 64 false)::(Ef x_v20)) fg)=>hK _ _ ?_⟩
            refine Rk 15 2 ((tB 69 (!x67))::(Ef x_v20)) dz ch fun f5 d1=>?_
            refine wf ?_
            obtain rfl:=XZ x
            exact XY _ ⟨_,rfl,d1.kp,ch,XU am eu⟩
         ·
          rintro _ g4 ⟨bv,af,rfl,bg,ax,bm⟩
          replace q:=q.mono bm
          replace l:=l.mono bm
          refine wC (cn) bg (fun a8=>?_) (fun a8=>?_)
          ·
           rw [Bc a8] at k
           refine XT (Aa (Rk 0 1 [tI 2 1] bg ax fun f6 d2=>?_))
           refine wf (wp_ret ?_)
           obtain rfl:=XZ k
           obtain rfl:=XZ H
           exact rt (.one (.c (.int .i64 1))) d2 ax rfl
          ·
           rw [Bd a8] at k
           refine wp_skip (XT (Aa (Rk 0 1 ((tI 6 0)::(Ef x_v20)) bg ax fun f7 d3=>?_)))
           refine wf ?_
           obtain⟨co,b4,k⟩:=Ap k
           refine Aq (fun a' w'=>∃ (cu:Unit)(bw:Array Value)(a3:Ac),a' = ⟨bw,[]⟩∧Kn 84 (G1 a d e x_v20 i) [tI 4 x_v20,tP 1 0 0] bw∧Aj ⟨w,h,A9⟩ a3 (G1 a d e x_v20 i) [⟨Hs m y p f g,some 25⟩,⟨Hr x51,none⟩,⟨Hr x51,some 66⟩] [] w'∧Ac.le af a3∧co=.go cu) ?_ ?_
           ·
            refine wp_block ?_
            refine Au (fun fb a' w'=>∃ (x_v30:Int)(bx:Array Value)(a4:Ac),a' = ⟨bx,[]⟩∧Kn 84 (G1 a d e x_v20 i) ((tI 6 x_v30)::(Ef x_v20)) bx∧Aj ⟨w,h,A9⟩ a4 (G1 a d e x_v20 i) [⟨Hs m y p f g,some 25⟩,⟨Hr x51,none⟩,⟨Hr x51,some 66⟩] [] w'∧Ac.le af a4∧Dj fb y x_v20 x51 x_v30=some co) ae ?_ ?_
            ·
             exact XY 0 ⟨_,_,rfl,d3.kp,ax,Ac.le_refl _,b4⟩
            ·
             rintro bq _ g5 ⟨x_v30,bx,a4,rfl,d5,ab,bn,u⟩
             clear b4
             obtain _ | bq:=bq
             ·
              rw [Dj] at u; cases u
             rw [Dj] at u
             replace l:=l.mono bn
             refine XT (XT (Aa (Rk 0 3 ((tB 72 (decide (x_v30<x_v20)))::(tI 6 x_v30)::(Ef x_v20)) d5 ab fun f9 bh=>?_)))
             refine wf (wC (decide (x_v30<x_v20)) bh (fun a9=>?_) (fun a9=>?_))
             ·
              rw [a9,XW] at u
              refine wp_skip (XT (wp_block (XT (Ax (by kernel_rfl) ?_))))
              replace ab:=ab.drew
              refine A3 [] (G1 a d e x_v20 i) [⟨Hs m y p f g,some 25⟩,⟨Hr x51,none⟩,⟨Hr x51,some 66⟩] ?_
              refine Dr [0,1,2] [2,1,0] ((tI 77 x_v30)::(tS 76 f y.buses.length g)::(tI 6 x_v30)::(Ef x_v20)) bh ab fun ga d6=>?_
              obtain⟨x78,ex78,u⟩:=Ap u
              obtain⟨ez,e2,e8⟩:=Ak ex78
              obtain⟨b2,cr,fm,c6,e5,c9⟩:=l.get (by decide) e8
              obtain⟨_,_,rfl,rfl,⟨_,_,rfl,rfl,rfl⟩⟩:=e5
              have ao:=ab.addPlc (b:=b2) (o:=cr+(x_v30:Int).toNat*3) (cs:=[.int .i64 x78.lo,.int .i64 x78.hi,.int .i64 x78.turn]) (fun j c hj=>c9 j _ (Am hj)) rfl (by kernel_rfl) (by kernel_rfl)
              refine AA 3 (x_v30) [.int .i64 x78.lo,.int .i64 x78.hi,.int .i64 x78.turn] (fun _ _ _ _ _ h=>h) rfl rfl (rfl) rfl (by decide) (by kernel_rfl) (by kernel_rfl) d6 ab.plOk (by rfl) (by rfl) (by rfl) c6 (by rfl) ez e2 (by kernel_rfl) fun fh (d8:Kn 84 [(a,0),(d,e+(x_v20:Int).toNat*3),(i,0),(b2,cr+(x_v30:Int).toNat*3)] ((tP 78 3 0)::(tI 77 x_v30)::(tS 76 f y.buses.length g)::(tI 6 x_v30)::(Ef x_v20)) fh)=>?_
              refine Dr [4,5,6,7,8] (dn 8) ((tB 83 (x78.turn == x51.turn))::(tI 6 x_v30)::(Ef x_v20)) d8 ao fun gc bi=>?_
              refine AE (by kernel_rfl) (wC ((x78.turn == x51.turn)) bi (fun ba=>?_) (fun ba=>?_))
              ·
               rw [ba,XW] at u
               refine XT (Aa (Rk 0 1 [tI 2 1] bi ao fun gd d9=>?_))
               refine wf (wp_ret ?_)
               obtain rfl:=XZ u
               obtain rfl:=XZ k
               obtain rfl:=XZ H
               exact rt (.one (.c (.int .i64 1))) d9 ao rfl
              ·
               rw [ba,XV] at u
               refine wp_skip (Aa (Rk 0 3 ((tI 6 (IntKind.i64.wrap (x_v30+1)))::(Ef x_v20)) bi ao fun gf ea=>?_))
               refine wf ?_
               exact XY bq ⟨Nat.lt_succ_self _,XY (IntKind.i64.wrap (x_v30+1)) ⟨_,_,rfl,(ea.keep [6,5,4,1] (by rfl)).cut 3 (by kernel_rfl),ao.cutPl 3 (by kernel_rfl),bn,u⟩⟩
             ·
              rw [a9,XV] at u
              refine wp_exit ?_
              obtain rfl:=XZ u
              exact XY () ⟨_,_,rfl,bh.kp,ab,bn,rfl⟩
           ·
            rintro _ g6 ⟨cu,bw,a3,rfl,ec,ci,ev,rfl⟩
            rw [Ex.bind_go] at k
            refine Aa (Rk 0 3 [tI 4 (IntKind.i64.wrap (x_v20+1)),tP 1 0 0] ec ci fun gg ed=>?_)
            refine wf ?_
            exact XY ae ⟨Nat.lt_succ_self _,XY (IntKind.i64.wrap (x_v20+1)) ⟨_,_,rfl,(ed.keep [4,1] (by rfl)).cut 1 (by kernel_rfl),ci.cutPl 1 (by kernel_rfl),XU au (XU bm ev),k⟩⟩
        ·
         rw [a7,XV] at k
         refine wp_exit ?_
         obtain rfl:=XZ k
         exact XY () ⟨_,_,rfl,bf.kp,aw,au,rfl⟩
      ·
       rintro _ g7 ⟨ct,bs,a2,rfl,ee,cj,fs,rfl⟩
       rw [Ex.bind_go] at H
       refine XT (Aa (Rk 0 1 [tI 2 0] ee cj fun gh ef=>?_))
       refine wf (wp_ret ?_)
       obtain rfl:=XZ H
       exact rt (.one (.c (.int .i64 0))) ef cj rfl
abbrev Pr (a:Option Addr) (y:Ag) (d:Nat) (b:Option Addr) (e:Nat):List SC:=[.slice a y.room.length d,.slice b y.buses.length e,.int .i64 y.broken]
set_option maxRecDepth 100000 in
set_option maxHeartbeats 4000000 in
theorem Lt (n:Nat) {h:Ac} {w:World} (hh:Db h w) (y:Ag) {cs_y:List Value} (hx_y:rep h y cs_y) {r:Int} (H:FV n y=some r) :
  Calls Tryz.prog 10 #[.agg cs_y.toArray] w (Dd (fun h v=>v=.int .i64 r) h w):=by
 obtain⟨_,_,rfl,⟨a,d,rfl,q⟩,⟨_,_,rfl,⟨b,e,rfl,s⟩,rfl⟩⟩:=hx_y
 refine enter 5 [.agg (Pr a y d b e)] Tryz.func10 rfl rfl rfl rfl fun t hk=>?_
 have hm:=Aj.begin h w hh
 unfold FV at H
 refine XT (Aa (wl fun K hK=>?_))
 refine wb (.agg (Pr a y d b e)) hk hm fun g x ag (k:Kn 5 [(g,0)] [tP 1 0 0,tA 0 (Pr a y d b e)] x) f=>hK _ _ ?_
 refine Rk 1 1 [tP 1 0 0] k f fun ab l=>?_
 refine wf (XT (Aa (Rk 0 1 [tA 3 (Pr a y d b e)] l f fun ac m=>?_)))
 obtain⟨x4,ex4,H⟩:=Ap H
 refine wl fun K hK=>?_
 refine wc [.agg (Pr a y d b e)] m f (HV n f.has y ((Ab (Ae q) (Ab (Ae s) Ad)):rep h y _) ex4) fun ae z af j aa i=>?_
 obtain rfl:=j
 refine⟨.one (.c (.int .i64 x4)),rfl,fun u (o:Kn 5 [(g,0)] [tI 4 x4,tA 3 (Pr a y d b e)] u)=>hK _ _ ?_⟩
 refine Rk 2 1 [tI 2 x4] o i fun ad p=>?_
 refine wf (wp_ret ?_)
 obtain rfl:=XZ H
 exact rt (.one (.c (.int .i64 x4))) p i rfl
end Go.Proofs.YthcbemnflgjadaaGreat
