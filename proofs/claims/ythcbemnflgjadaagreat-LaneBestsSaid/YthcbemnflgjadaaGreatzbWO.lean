/- Each call computes its plain function. -/
import Derived.Test.YthcbemnflgjadaaGreatProg
import Derived.Test.YthcbemnflgjadaaGreatzbP0
import Derived.Test.YthcbemnflgjadaaGreatzbWA
import Derived.Test.YthcbemnflgjadaaGreatzbWF
import Derived.Test.YthcbemnflgjadaaGreatzbWG
import Derived.Test.YthcbemnflgjadaaGreatzbWH
import Derived.Test.YthcbemnflgjadaaGreatzbWI
import Derived.Test.YthcbemnflgjadaaGreatzbWJ
set_option linter.all false
namespace Go.Proofs.YthcbemnflgjadaaGreat
open Go Go.RowKit
open Rep (rep)
open KRep (kv)
open VRep (rv)
abbrev PS (a:Option Addr) (y:Ag) (d:Nat) (b:Option Addr) (e:Nat):List SC:=[.slice a y.room.length d,.slice b y.buses.length e,.int .i64 y.broken]
abbrev Te:TM:=[tB 5 true,tP 1 0 0]
set_option maxRecDepth 100000 in
set_option maxHeartbeats 4000000 in
theorem Oj (n:Nat) {h:Ac} {w:World} (hh:Db h w) (y:Ag) {cs_y:List Value} (hx_y:rep h y cs_y) {r:Bool} (H:Jw n y=some r) :
  Calls Tryz.prog 5 #[.agg cs_y.toArray] w (Dd (fun h v=>v=.bool r) h w):=by
 obtain⟨_,_,rfl,⟨a,d,rfl,m⟩,⟨_,_,rfl,⟨b,e,rfl,o⟩,rfl⟩⟩:=hx_y
 refine enter 16 [.agg (PS a y d b e)] Tryz.func5 rfl rfl rfl rfl fun t hk=>?_
 have hm:=Aj.begin h w hh
 unfold Jw at H
 refine XT (Aa (wl fun K hK=>?_))
 refine wb (.agg (PS a y d b e)) hk hm fun f ar a6 (ad:Kn 16 [(f,0)] [tP 1 0 0,tA 0 (PS a y d b e)] ar) l=>hK _ _ ?_
 refine Rk 1 1 [tP 1 0 0] ad l fun aw ae=>?_
 refine wf (XT (Aa (Rk 0 1 [tA 3 (PS a y d b e),tP 1 0 0] ae l fun ax af=>?_)))
 obtain⟨x4,ex4,H⟩:=Ap H
 refine wl fun K hK=>?_
 refine wc [.agg (PS a y d b e)] af l (Rd n l.has y ((Ab (Ae m) (Ab (Ae o) Ad)):rep h y _) ex4) fun a2 ac a4 aa u g=>?_
 replace m:=m.mono u
 replace o:=o.mono u
 obtain rfl:=aa
 refine⟨.one (.c (.bool x4)),rfl,fun ap (ag:Kn 16 [(f,0)] [tB 4 x4,tA 3 (PS a y d b e),tP 1 0 0] ap)=>hK _ _ ?_⟩
 refine Rk 2 1 [tB 5 x4,tP 1 0 0] ag g fun x p=>?_
 rcases Bool.eq_false_or_eq_true (x4) with i | i
 ·
  rw [Bc i] at H
  have ah:Kn 16 [(f,0)] Te x:=(p.setB 5 true (by rfl) i).kp
  refine Rk 3 1 ((tA 6 (PS a y d b e))::Te) ah g fun ay q=>?_
  obtain⟨x7,ex7,H⟩:=Ap H
  refine AF _ rfl (Al q (by kernel_rfl)) fun K hK=>?_
  refine wc [.agg (PS a y d b e)] q g (HV n g.has y ((Ab (Ae m) (Ab (Ae o) Ad)):rep ac y _) ex7) fun a3 au a5 ab av k=>?_
  obtain rfl:=ab
  refine⟨.one (.c (.int .i64 x7)),rfl,fun aq (ai:Kn 16 [(f,0)] ((tI 7 x7)::(tA 6 (PS a y d b e))::Te) aq)=>hK _ _ ?_⟩
  refine Rk 5 2 ((tB 9 (x7 != 0))::Te) ai k fun z s=>?_
  rcases Bool.eq_false_or_eq_true ((x7 != 0)) with j | j
  ·
   rw [j,XW] at H
   have aj:Kn 16 [(f,0)] ((tB 9 true)::Te) z:=(s.setB 9 true (by rfl) j).kp
   refine Rk 7 7 [tB 2 true] aj k fun az ak=>?_
   refine wf (wp_ret ?_)
   obtain rfl:=XZ H
   exact rt (.one (.c (.bool true))) ak k rfl
  ·
   rw [j,XV] at H
   have al:Kn 16 [(f,0)] ((tB 9 false)::Te) z:=(s.setB 9 false (by rfl) j).kp
   refine Rk 7 7 [tB 2 (decide (((y.buses.length:Nat):Int)≤5))] al k fun a0 am=>?_
   refine wf (wp_ret ?_)
   obtain rfl:=XZ H
   exact rt (.one (.c (.bool (decide (((y.buses.length:Nat):Int)≤5))))) am k rfl
 ·
  rw [Bd i] at H
  have an:Kn 16 [(f,0)] [tB 5 false,tP 1 0 0] x:=(p.setB 5 false (by rfl) i).kp
  refine Rk 3 11 [tB 2 false] an g fun a1 ao=>?_
  refine wf (wp_ret ?_)
  obtain rfl:=XZ H
  exact rt (.one (.c (.bool false))) ao g rfl
abbrev EE (b:Option Addr) (y:Ag) (e:Nat) (d:Option Addr) (f:Nat):List SC:=[.slice b y.room.length e,.slice d y.buses.length f,.int .i64 y.broken]
abbrev FK (b:Option Addr) (y:Ag) (e:Nat) (d:Option Addr) (f:Nat):List Co:=[⟨EE b y e d f,some 25⟩]
abbrev EF (a_begins:Option Addr) (begins:List Int) (c_begins:Nat):TM:=[tP 2 0 0,tS 1 a_begins begins.length c_begins]
set_option maxRecDepth 100000 in
set_option maxHeartbeats 4000000 in
theorem Ok (n:Nat):∀ (h:Ac)(w:World)(hh:Db h w)(y:Ag)(cs_y:List Value)(hx_y:rep h y cs_y)(begins:List Int)(a_begins:Option Addr)(c_begins:Nat)(hr_begins:At h a_begins c_begins begins)(r:List (List Int))(H:ref_Orders n y begins=some r),
  Calls Tryz.prog 16 #[.agg cs_y.toArray,.slice a_begins begins.length c_begins] w (Dd (fun h v=>∃ a c,v=.slice a r.length c∧At h a c r) h w):=by
 induction n using Nat.strongRecOn with
 | _ n ih =>
  intro h w hh y cs_y hx_y begins a_begins c_begins hr_begins r H
  obtain _ | n:=n
  ·
   rw [ref_Orders] at H; cases H
  obtain⟨_,_,rfl,⟨b,e,rfl,o⟩,⟨_,_,rfl,⟨d,f,rfl,p⟩,rfl⟩⟩:=hx_y
  refine enter 42 [.agg (EE b y e d f),.c (.slice a_begins begins.length c_begins)] Tryz.func16 rfl rfl rfl rfl fun t hk=>?_
  have hm:=Aj.begin h w hh
  rw [ref_Orders] at H
  refine XT (Aa (wl fun K hK=>?_))
  refine wb (.agg (EE b y e d f)) hk hm fun g fb fi (dm:Kn 42 [(g,0)] [tP 2 0 0,tA 0 (EE b y e d f),tS 1 a_begins begins.length c_begins] fb) u=>hK _ _ ?_
  refine Rk 1 1 (EF a_begins begins c_begins) dm u fun fx dr=>?_
  refine wf (XT (XT (Aa (Rk 0 6 ((tB 12 (((begins.length:Nat):Int) == ((y.buses.length:Nat):Int)))::(EF a_begins begins c_begins)) dr u fun fy bw=>?_))))
  refine wf (wC ((((begins.length:Nat):Int) == ((y.buses.length:Nat):Int))) bw (fun bn=>?_) (fun bn=>?_))
  ·
   rw [bn,XW] at H
   refine XT (XT (Aa (Rk 0 2 [tS 14 a_begins begins.length c_begins,tA 13 (EE b y e d f),tS 1 a_begins begins.length c_begins] bw u fun fz dv=>?_)))
   obtain⟨x15,ex15,H⟩:=Ap H
   refine wl fun K hK=>?_
   refine wc [.agg (EE b y e d f),.c (.slice a_begins begins.length c_begins)] dv u (Ie n u.has y ((Ab (Ae o) (Ab (Ae p) Ad)):rep h y _) begins hr_begins ex15) fun gb ck gf c7 bz b4=>?_
   replace o:=o.mono bz
   replace p:=p.mono bz
   replace hr_begins:=hr_begins.mono bz
   obtain rfl:=c7
   refine⟨.one (.c (.bool x15)),rfl,fun cv (d3:Kn 42 [(g,0)] [tB 15 x15,tS 14 a_begins begins.length c_begins,tA 13 (EE b y e d f),tS 1 a_begins begins.length c_begins] cv)=>hK _ _ ?_⟩
   have bx:Kn 42 [(g,0)] [tB 15 x15,tS 1 a_begins begins.length c_begins] cv:=d3.kp
   refine wf (wC (x15) bx (fun bo=>?_) (fun bo=>?_))
   ·
    rw [Bc bo] at H
    refine XT (Aa (wl fun K hK=>?_))
    refine wS 3 1 [] bx b4 fun ay e8 gh (d4:Kn 42 [(g,0)] [tS 16 ay 0 0,tB 15 x15,tS 1 a_begins begins.length c_begins] e8) b5=>?_
    have dg:Af ck ([]:List Int) ([]:List Value):=Af.nil
    refine hK _ _ ?_
    refine Rk 1 1 [tS 17 a_begins begins.length c_begins,tS 16 ay 0 0] d4 b5 fun f4 d5=>?_
    obtain⟨an,a8,ez,_⟩:=id hr_begins
    obtain⟨x18,ex18,H⟩:=Ap H
    obtain⟨cc,eg⟩:=AS ex18
    refine wl fun K hK=>?_
    refine AI 0 8 begins.length _ (x18.length) _ an d5 b5 rfl rfl (by decide) rfl (by rfl) (by kernel_rfl) (by rfl) (by rfl) (Af.len a8) (ez.cell b5.has a8.one) a8.one (by rw [cc]; simp <;> omega) (by rw [cc]; exact eg) (by decide) fun q s c0 e9 fg dl (d6:Kn 42 [(g,0)] [tS 18 q x18.length s,tS 17 a_begins begins.length c_begins,tS 16 ay 0 0] e9) cq=>?_
    have br:Af ck x18 (([]:List Value)++an):=by rw [cc]; exact Af.append dg a8
    obtain rfl:c0=0:=Nat.le_zero.1 dl
    refine hK _ _ ?_
    obtain⟨a3,ei,ev,b6⟩:=cq.settle (i:=0) rfl
    replace br:=br.mono ei
    replace b6:Aj ⟨w,h,A9⟩ a3 [(g,0)] (FK b y e d f) [⟨q,x18.length,s,3,1,([]:List Value)++an,((([]:List Value)++an):List Value).length⟩] fg:=b6
    have er:At a3 q s x18:=⟨_,br,ev,cq.rowCap (i:=0) rfl⟩
    refine wl fun K hK=>?_
    refine wS 22 1 [.slice q x18.length s] d6 b6 fun ao fa fh (d7:Kn 42 [(g,0)] [tS 19 ao 1 1,tS 18 q x18.length s,tS 17 a_begins begins.length c_begins,tS 16 ay 0 0] fa) b7=>?_
    have bs:Af a3 ([x18]:List (List Int)) ([.slice q x18.length s]:List Value):=⟨_,_,rfl,((Ae er):rep a3 (x18:List Int) _),rfl⟩
    refine hK _ _ ?_
    refine Rk 4 1 [tS 4 ao 1 1] d7 b7 fun f5 d8=>?_
    refine wf (wp_ret ?_)
    obtain⟨cm,ej,ew,b8⟩:=b7.settle (i:=1) rfl
    replace bs:=bs.mono ej
    replace b8:Aj ⟨w,h,A9⟩ cm [(g,0)] (FK b y e d f) [⟨q,x18.length,s,3,1,([]:List Value)++an,((([]:List Value)++an):List Value).length⟩,⟨ao,1,1,22,1,([.slice q x18.length s]:List Value),(([.slice q x18.length s]:List Value):List Value).length⟩] fh:=b8
    have es:At cm ao 1 ([x18]:List (List Int)):=⟨_,bs,ew,b7.rowCap (i:=1) rfl⟩
    obtain rfl:=XZ H
    exact rt (.one (.c (.slice ao 1 1))) d8 b8 ⟨_,_,rfl,es⟩
   ·
    rw [Bd bo] at H
    refine wp_skip (XT (Aa (Rk 0 1 [tS 4 none 0 0] bx b4 fun f6 d9=>?_)))
    refine wf (wp_ret ?_)
    obtain rfl:=XZ H
    exact rt (.one (.c (.slice none 0 0))) d9 b4 ⟨_,_,rfl,At.nil⟩
  ·
   rw [bn,XV] at H
   refine wp_skip (XT (Aa (Rk 0 1 ((tS 5 none 0 0)::(EF a_begins begins c_begins)) bw u fun f7 ea=>?_)))
   refine wf (XT (XT (Aa (Rk 0 1 ((tI 6 0)::(tS 5 none 0 0)::(EF a_begins begins c_begins)) ea u fun f8 eb=>?_))))
   refine wf ?_
   have em:Aj ⟨w,h,A9⟩ h [(g,0)] (FK b y e d f) [⟨none,0,0,22,1,[],0⟩] fi:=u.nilRow 22 1
   have dh:Af h ([]:List (List Int)) []:=Af.nil
   obtain⟨x,ci,H⟩:=Ap H
   refine Aq (fun a' w'=>∃ (ac:Option Addr)(ag:Nat)(aw:List Value)(cd:Array Value)(a4:Ac),a' = ⟨cd,[]⟩∧Kn 42 [(g,0)] [tS 5 ac x.length ag] cd∧Aj ⟨w,h,A9⟩ a4 [(g,0)] (FK b y e d f) [⟨ac,x.length,ag,22,1,aw,0⟩] w'∧Ac.le h a4∧Af a4 x aw) ?_ ?_
   ·
    refine wp_block ?_
    refine Au (fun ct a' w'=>∃ (x_v10:List (List Int))(x_v11:Int)(j:Option Addr)(k:Nat)(m:List Value)(ce:Array Value)(a5:Ac),a' = ⟨ce,[]⟩∧Kn 42 [(g,0)] ((tI 6 x_v11)::(tS 5 j x_v10.length k)::(EF a_begins begins c_begins)) ce∧Aj ⟨w,h,A9⟩ a5 [(g,0)] (FK b y e d f) [⟨j,x_v10.length,k,22,1,m,0⟩] w'∧Ac.le h a5∧Af a5 x_v10 m∧ct≤n∧Cy ct y begins x_v10 x_v11=some x) n ?_ ?_
    ·
     exact XY ([]:List (List Int)) ⟨0,none,0,[],_,_,rfl,eb.kp,em,Ac.le_refl _,dh,Nat.le_refl _,ci⟩
    ·
     rintro am _ gi ⟨x_v10,x_v11,j,k,m,ce,a5,rfl,ec,av,al,ah,fo,l⟩
     clear ci
     obtain _ | am:=am
     ·
      rw [Cy] at l; cases l
     rw [Cy] at l
     replace o:=o.mono al
     replace p:=p.mono al
     replace hr_begins:=hr_begins.mono al
     refine XT (XT (Aa (Rk 0 5 ((tB 24 (decide (x_v11<((y.buses.length:Nat):Int))))::(tI 6 x_v11)::(tS 5 j x_v10.length k)::(EF a_begins begins c_begins)) ec av fun ft bu=>?_)))
     refine wf (wC (decide (x_v11<((y.buses.length:Nat):Int))) bu (fun bl=>?_) (fun bl=>?_))
     ·
      rw [bl,XW] at l
      refine wp_skip (XT (wp_block (XT (Aa (Rk 0 2 ((tI 28 x_v11)::(tS 27 a_begins begins.length c_begins)::(tI 6 x_v11)::(tS 5 j x_v10.length k)::(EF a_begins begins c_begins)) bu av fun fu dn=>?_)))))
      obtain⟨x29,ex29,l⟩:=Ap l
      refine wl fun K hK=>?_
      refine wc [.c (.slice a_begins begins.length c_begins),.c (.int .i64 x_v11)] dn av (G2 am av.has begins hr_begins x_v11 ex29) fun f9 a1 cw c5 ak ai=>?_
      replace o:=o.mono ak
      replace p:=p.mono ak
      replace hr_begins:=hr_begins.mono ak
      replace ah:=ah.mono ak
      obtain rfl:=c5
      refine⟨.one (.c (.bool x29)),rfl,fun e2 (dp:Kn 42 [(g,0)] ((tB 29 x29)::(tI 28 x_v11)::(tS 27 a_begins begins.length c_begins)::(tI 6 x_v11)::(tS 5 j x_v10.length k)::(EF a_begins begins c_begins)) e2)=>hK _ _ ?_⟩
      refine Rk 3 1 ((tB 30 (!x29))::(tI 6 x_v11)::(tS 5 j x_v10.length k)::(EF a_begins begins c_begins)) dp ai fun fv bv=>?_
      refine wf (wC ((!x29)) bv (fun bm=>?_) (fun bm=>?_))
      ·
       rw [bm,XW] at l
       refine Ax (by kernel_rfl) ?_
       replace ai:=ai.drew
       refine A3 [] [(g,0)] (FK b y e d f) ?_
       refine Dr [0,1,3,5] [5,3,1,0] ((tI 36 x_v11)::(tS 34 a_begins begins.length c_begins)::(tA 32 (EE b y e d f))::(tS 31 j x_v10.length k)::(tI 6 x_v11)::(EF a_begins begins c_begins)) bv ai fun fw dq=>?_
       obtain⟨x35,ex35,l⟩:=Ap l
       obtain⟨x38,ex38,l⟩:=Ap l
       obtain⟨x39,ex39,l⟩:=Ap l
       obtain⟨x40,ex40,l⟩:=Ap l
       have ek:Aj ⟨w,h,A9⟩ a1 [(g,0)] (FK b y e d f) [⟨j,x_v10.length,k,22,1,m,0⟩,⟨none,0,0,3,1,[],0⟩] (World.drew cw):=ai.nilRow 3 1
       have el:Aj ⟨w,h,A9⟩ a1 [(g,0)] (FK b y e d f) [⟨j,x_v10.length,k,22,1,m,0⟩,⟨none,0,0,3,1,[],0⟩,⟨none,0,0,3,1,[],0⟩] (World.drew cw):=ek.nilRow 3 1
       refine FQ (Vi 42 ⟨w,h,A9⟩ [(g,0)] (FK b y e d f) (FK b y e d f) [] [⟨6,37,3,1,1,[.int .i64 x_v11]⟩] [4,2,5,3,1,0] (fun mm cj rw=>∃ (aa:Option Addr)(ae:Nat)(z:List Value),mm=((tS 35 aa x35.length ae)::(tI 36 x_v11)::(tA 32 (EE b y e d f))::(tS 31 j x_v10.length k)::(tI 6 x_v11)::(EF a_begins begins c_begins))∧rw=[⟨j,x_v10.length,k,22,1,m,0⟩,⟨aa,x35.length,ae,3,1,z,0⟩]∧Ac.le a1 cj∧Af cj x35 z)) ?_ (fun e0=>?_)
       ·
        refine FX (J4 [(7,[true])] ?_ (fun _ _ _ hm=>hm.plOk) (by kernel_rfl) (by kernel_rfl) ⟨?_,trivial⟩)
        ·
         rintro _ _ _ ⟨aa,ae,z,rfl,rfl,_,_⟩
         exact⟨⟨⟨_,_,_,rfl,rfl,rfl,rfl,rfl,by rfl,by rfl,by rfl,rfl,by kernel_rfl⟩,trivial⟩,by kernel_rfl⟩
        ·
         intro fj fl e3 a2 fp fr fc c8 c1 cr c3 aq ba
         obtain⟨cg,rfl⟩:=SW c8
         obtain⟨aj,rfl⟩:=SW c1
         obtain rfl:cg=true:=by cases cg <;> first | rfl | exact(Bool.false_ne_true cr).elim
         obtain⟨aa,ae,z,rfl,rfl,a9,dc⟩:=c3
         replace aq:=aq.req [true] (by kernel_rfl) cr rfl
         have bp:Af a2 ([x_v11]:List Int) ([.int .i64 x_v11]:List Value):=⟨_,_,rfl,(Ad:rep a2 (x_v11:Int) _),rfl⟩
         replace aq:Kn 42 [(g,0)] ([tS 35 aa x35.length ae,tI 36 x_v11,tA 32 (EE b y e d f),tS 31 j x_v10.length k,tI 6 x_v11,tP 2 0 0,tS 1 a_begins begins.length c_begins,tS 37 aj 1 1]++En [⟨6,37,3,1,1,[.int .i64 x_v11]⟩] [true] [aj]) e3:=aq
         replace ba:Aj ⟨w,h,A9⟩ a2 [(g,0)] (FK b y e d f) [⟨j,x_v10.length,k,22,1,m,0⟩,⟨aa,x35.length,ae,3,1,z,0⟩,⟨aj,1,1,3,1,([.int .i64 x_v11]:List Value),0⟩] fc:=ba
         refine⟨_,rfl,rfl,fun K hK=>?_⟩
         obtain⟨b9,ed⟩:=AS ex38
         refine AI 1 8 1 _ (x38.length) _ ([.int .i64 x_v11]:List Value) aq ba rfl rfl (by decide) rfl (by rfl) (by kernel_rfl) (by rfl) (by rfl) (Af.len bp) (ba.rowCell (i:=2) rfl) bp.one (by rw [b9]; simp <;> omega) (by rw [b9]; exact ed) (by decide) fun ab af cx cu fd di (ds:Kn 42 [(g,0)] ([tS 38 ab x38.length af,tS 35 aa x35.length ae,tI 36 x_v11,tA 32 (EE b y e d f),tS 31 j x_v10.length k,tI 6 x_v11,tP 2 0 0,tS 1 a_begins begins.length c_begins,tS 37 aj 1 1]++En [⟨6,37,3,1,1,[.int .i64 x_v11]⟩] [true] [aj]) cu) b0=>?_
         have bq:Af a2 x38 (z++([.int .i64 x_v11]:List Value)):=by rw [b9]; exact Af.append dc bp
         obtain rfl:cx=0:=Nat.le_zero.1 di
         refine hK _ _ b0.plOk ?_
         have dt:Kn 42 [(g,0)] ((tS 38 ab x38.length af)::(tA 32 (EE b y e d f))::(tS 31 j x_v10.length k)::(tI 6 x_v11)::(EF a_begins begins c_begins)) cu:=ds.kp
         refine DV 8 rfl (by kernel_rfl) (Nat.le_of_ble_eq_true rfl) (rfl) fun K hK=>?_
         obtain⟨bj,au,et,bb⟩:=b0.settle (i:=1) rfl
         replace o:=o.mono (XU a9 au)
         replace p:=p.mono (XU a9 au)
         replace bq:=bq.mono au
         replace bb:Aj ⟨w,h,A9⟩ bj [(g,0)] (FK b y e d f) [⟨j,x_v10.length,k,22,1,m,0⟩,⟨ab,x38.length,af,3,1,z++([.int .i64 x_v11]:List Value),((z++([.int .i64 x_v11]:List Value)):List Value).length⟩,⟨aj,1,1,3,1,([.int .i64 x_v11]:List Value),0⟩] fd:=bb
         have en:At bj ab af x38:=⟨_,bq,et,b0.rowCap (i:=1) rfl⟩
         refine wc [.agg (EE b y e d f),.c (.slice ab x38.length af)] dt bb (ih am (by omega) _ _ bb.has y _ ((Ab (Ae o) (Ab (Ae p) Ad)):rep bj y _) x38 _ _ en _ ex39) fun ga da gc c6 cn b1=>?_
         replace ah:=ah.mono (XU (XU a9 au) cn)
         obtain⟨bf,bh,rfl,eo⟩:=c6
         refine⟨.one (.c (.slice bf x39.length bh)),rfl,fun e4 (du:Kn 42 [(g,0)] ((tS 39 bf x39.length bh)::(tS 38 ab x38.length af)::(tA 32 (EE b y e d f))::(tS 31 j x_v10.length k)::(tI 6 x_v11)::(EF a_begins begins c_begins)) e4)=>hK _ _ b1.plOk ?_⟩
         refine DV 9 rfl (by kernel_rfl) (Nat.le_of_ble_eq_true rfl) (rfl) fun K hK=>?_
         obtain⟨cf,a6,ex,_⟩:=id eo
         obtain⟨ca,ee⟩:=AS ex40
         refine AI 0 24 x39.length _ (x40.length) _ cf du b1 rfl rfl (by decide) rfl (by rfl) (by kernel_rfl) (by rfl) (by rfl) (Af.len a6) (ex.cell b1.has a6.one) a6.one (by rw [ca]; simp <;> omega) (by rw [ca]; exact ee) (by decide) fun ax a0 cy e5 gd dj (dw:Kn 42 [(g,0)] ((tS 40 ax x40.length a0)::(tS 39 bf x39.length bh)::(tS 38 ab x38.length af)::(tA 32 (EE b y e d f))::(tS 31 j x_v10.length k)::(tI 6 x_v11)::(EF a_begins begins c_begins)) e5) bc=>?_
         have dd:Af da x40 (m++cf):=by rw [ca]; exact Af.append ah a6
         obtain rfl:cy=0:=Nat.le_zero.1 dj
         refine hK _ _ bc.plOk ?_
         refine Dr [10] [10,9,8,7,6,4,2,5,3,1,0] ((tS 5 ax x40.length a0)::(tI 6 x_v11)::(EF a_begins begins c_begins)) dw bc fun f0 dx=>?_
         refine AE (by kernel_rfl) (Aa (Rk 0 3 ((tI 6 (IntKind.i64.wrap (x_v11+1)))::(tS 5 ax x40.length a0)::(EF a_begins begins c_begins)) dx bc fun f1 dy=>?_))
         refine wf ?_
         exact XY am ⟨Nat.lt_succ_self _,XY x40 ⟨IntKind.i64.wrap (x_v11+1),ax,a0,m++cf,_,_,rfl,dy.kp,bc.cutRw 1,XU al (XU ak (XU a9 (XU au cn))),dd,(by omega),l⟩⟩
       refine FQ (Vi 42 ⟨w,h,A9⟩ [(g,0)] (FK b y e d f) (FK b y e d f) [] [⟨2,33,3,1,0,[]⟩,⟨6,37,3,1,1,[.int .i64 x_v11]⟩] [5,3,1,0] (fun mm db rw=>mm=((tI 36 x_v11)::(tS 34 a_begins begins.length c_begins)::(tA 32 (EE b y e d f))::(tS 31 j x_v10.length k)::(tI 6 x_v11)::(EF a_begins begins c_begins))∧rw=[⟨j,x_v10.length,k,22,1,m,0⟩]∧Ac.le a1 db)) ?_ (fun e1=>?_)
       ·
        refine FX (J4 [(4,[true,false])] ?_ (fun _ _ _ hm=>hm.plOk) (by kernel_rfl) (by kernel_rfl) ⟨?_,trivial⟩)
        ·
         rintro _ _ _ ⟨rfl,rfl,_⟩
         exact⟨⟨⟨_,_,_,rfl,rfl,rfl,rfl,rfl,by rfl,by rfl,by rfl,rfl,by kernel_rfl⟩,⟨⟨_,_,_,rfl,rfl,rfl,rfl,rfl,by rfl,by rfl,by rfl,rfl,by kernel_rfl⟩,trivial⟩⟩,by kernel_rfl⟩
        ·
         intro fk fm e6 bk fq fs fe c9 c2 cs c4 ar bd
         obtain⟨ch,ad,rfl⟩:=SX c9
         obtain⟨ap,az,rfl⟩:=SX c2
         obtain rfl:ch=true:=by cases ch <;> first | rfl | exact(Bool.false_ne_true cs).elim
         obtain⟨rfl,rfl,co⟩:=c4
         replace hr_begins:=hr_begins.mono co
         replace ar:=ar.req [true,false] (by kernel_rfl) cs rfl
         have de:Af bk ([]:List Int) ([]:List Value):=Af.nil
         replace ar:Kn 42 [(g,0)] ([tI 36 x_v11,tS 34 a_begins begins.length c_begins,tA 32 (EE b y e d f),tS 31 j x_v10.length k,tI 6 x_v11,tP 2 0 0,tS 1 a_begins begins.length c_begins,tS 33 ap 0 0]++En [⟨2,33,3,1,0,[]⟩,⟨6,37,3,1,1,[.int .i64 x_v11]⟩] [true,ad] [ap,az]) e6:=ar
         replace bd:Aj ⟨w,h,A9⟩ bk [(g,0)] (FK b y e d f) [⟨j,x_v10.length,k,22,1,m,0⟩,⟨ap,0,0,3,1,([]:List Value),0⟩,Vh [(g,0)] ⟨6,37,3,1,1,[.int .i64 x_v11]⟩ ad az] fe:=bd
         refine⟨_,rfl,rfl,fun K hK=>?_⟩
         obtain⟨be,a7,ey,_⟩:=id hr_begins
         obtain⟨cb,ef⟩:=AS ex35
         refine AI 1 8 begins.length _ (x35.length) _ be ar bd rfl rfl (by decide) rfl (by rfl) (by kernel_rfl) (by rfl) (by rfl) (Af.len a7) (ey.cell bd.has a7.one) a7.one (by rw [cb]; simp <;> omega) (by rw [cb]; exact ef) (by decide) fun bg bi cz e7 gg dk (dz:Kn 42 [(g,0)] ([tS 35 bg x35.length bi,tI 36 x_v11,tS 34 a_begins begins.length c_begins,tA 32 (EE b y e d f),tS 31 j x_v10.length k,tI 6 x_v11,tP 2 0 0,tS 1 a_begins begins.length c_begins,tS 33 ap 0 0]++En [⟨2,33,3,1,0,[]⟩,⟨6,37,3,1,1,[.int .i64 x_v11]⟩] [true,ad] [ap,az]) e7) cp=>?_
         have df:Af bk x35 (([]:List Value)++be):=by rw [cb]; exact Af.append de a7
         obtain rfl:cz=0:=Nat.le_zero.1 dk
         refine hK _ _ cp.plOk ?_
         refine GQ (Tg [⟨6,37,3,1,1,[.int .i64 x_v11]⟩] [ad]++[4,2,5,3,1,0]) (by cases ad <;> kernel_rfl) (by cases ad <;> rfl) (e0 [ad] _ _ ⟨[az],_,_,_,[⟨j,x_v10.length,k,22,1,m,0⟩,⟨bg,x35.length,bi,3,1,([]:List Value)++be,0⟩],rfl,rfl,rfl,⟨bg,bi,([]:List Value)++be,rfl,rfl,co,df⟩,dz.next [false,true] _ (by kernel_rfl) (by rfl) (by kernel_rfl),cp.pickRows [0,1,2] (by kernel_rfl) (by kernel_rfl)⟩)
       exact e1 [false,false] _ _ ⟨[none,none],_,_,((tI 36 x_v11)::(tS 34 a_begins begins.length c_begins)::(tA 32 (EE b y e d f))::(tS 31 j x_v10.length k)::(tI 6 x_v11)::(EF a_begins begins c_begins)),[⟨j,x_v10.length,k,22,1,m,0⟩],rfl,rfl,rfl,⟨rfl,rfl,Ac.le_refl _⟩,dq.kp,el⟩
      ·
       rw [bm,XV] at l
       refine wp_skip (Aa (Rk 0 3 ((tI 6 (IntKind.i64.wrap (x_v11+1)))::(tS 5 j x_v10.length k)::(EF a_begins begins c_begins)) bv ai fun f2 d0=>?_))
       refine wf ?_
       exact XY am ⟨Nat.lt_succ_self _,XY x_v10 ⟨IntKind.i64.wrap (x_v11+1),j,k,m,_,_,rfl,d0.kp,ai,XU al ak,ah,(by omega),l⟩⟩
     ·
      rw [bl,XV] at l
      refine wp_exit ?_
      obtain rfl:=XZ l
      exact XY j ⟨k,m,_,_,rfl,bu.kp,av,al,ah⟩
   ·
    rintro _ ff ⟨ac,ag,aw,cd,a4,rfl,d1,b2,fn,bt⟩
    refine XT (Aa (Rk 0 2 [tS 4 ac x.length ag] d1 b2 fun f3 d2=>?_))
    refine wf (wp_ret ?_)
    obtain⟨cl,eh,eu,b3⟩:=b2.settle (i:=0) rfl
    replace bt:=bt.mono eh
    replace b3:Aj ⟨w,h,A9⟩ cl [(g,0)] (FK b y e d f) [⟨ac,x.length,ag,22,1,aw,(aw:List Value).length⟩] ff:=b3
    have ep:At cl ac ag x:=⟨_,bt,eu,b2.rowCap (i:=0) rfl⟩
    obtain rfl:=XZ H
    exact rt (.one (.c (.slice ac x.length ag))) d2 b3 ⟨_,_,rfl,ep⟩
theorem JX (n:Nat) {h:Ac} {w:World} (hh:Db h w) (y:Ag) {cs_y:List Value} (hx_y:rep h y cs_y) (begins:List Int) {a_begins:Option Addr} {c_begins:Nat} (hr_begins:At h a_begins c_begins begins) {r:List (List Int)} (H:ref_Orders n y begins=some r) :
  Calls Tryz.prog 16 #[.agg cs_y.toArray,.slice a_begins begins.length c_begins] w (Dd (fun h v=>∃ a c,v=.slice a r.length c∧At h a c r) h w):=Ok n h w hh y cs_y hx_y begins a_begins c_begins hr_begins r H
abbrev D5 (e:Option Addr) (y:Ag) (g:Nat) (f:Option Addr) (j:Nat):List SC:=[.slice e y.room.length g,.slice f y.buses.length j,.int .i64 y.broken]
abbrev S1 (m:Option Addr) (x11:List Int) (o:Nat) (l:List Value) (b:Option Addr) (x_v10:List (List Int)) (d:Nat) (p:List Value):List BH:=[⟨m,x11.length,o,3,1,([]:List Value)++l,((([]:List Value)++l):List Value).length⟩,⟨b,x_v10.length,d,22,1,p,0⟩]
abbrev Ol (x_v11:Int) (e:Option Addr) (y:Ag) (g:Nat) (f:Option Addr) (j:Nat) (b:Option Addr) (x_v10:List (List Int)) (d:Nat) (a_some_:Option Addr) (some_:List Int) (c_some_:Nat):TM:=[tI 31 (IntKind.i64.wrap (x_v11+1)),tA 29 (D5 e y g f j),tS 28 b x_v10.length d,tI 8 x_v11,tP 3 0 0,tS 2 a_some_ some_.length c_some_]
set_option maxRecDepth 100000 in
set_option maxHeartbeats 4000000 in
theorem Om (n:Nat):∀ (h:Ac)(w:World)(hh:Db h w)(y:Ag)(cs_y:List Value)(hx_y:rep h y cs_y)(from_:Int)(some_:List Int)(a_some_:Option Addr)(c_some_:Nat)(hr_some_:At h a_some_ c_some_ some_)(r:List (List Int))(H:ref_Breaks n y from_ some_=some r),
  Calls Tryz.prog 17 #[.agg cs_y.toArray,.int .i64 from_,.slice a_some_ some_.length c_some_] w (Dd (fun h v=>∃ a c,v=.slice a r.length c∧At h a c r) h w):=by
 induction n using Nat.strongRecOn with
 | _ n ih =>
  intro h w hh y cs_y hx_y from_ some_ a_some_ c_some_ hr_some_ r H
  obtain _ | n:=n
  ·
   rw [ref_Breaks] at H; cases H
  obtain⟨_,_,rfl,⟨e,g,rfl,s⟩,⟨_,_,rfl,⟨f,j,rfl,u⟩,rfl⟩⟩:=hx_y
  refine enter 41 [.agg (D5 e y g f j),.c (.int .i64 from_),.c (.slice a_some_ some_.length c_some_)] Tryz.func17 rfl rfl rfl rfl fun t hk=>?_
  have hm:=Aj.begin h w hh
  rw [ref_Breaks] at H
  refine XT (Aa (wl fun K hK=>?_))
  refine wb (.agg (D5 e y g f j)) hk hm fun k eu fr (df:Kn 41 [(k,0)] [tP 3 0 0,tA 0 (D5 e y g f j),tI 1 from_,tS 2 a_some_ some_.length c_some_] eu) ci=>hK _ _ ?_
  refine Rk 1 1 [tP 3 0 0,tI 1 from_,tS 2 a_some_ some_.length c_some_] df ci fun fa dh=>?_
  refine wf (XT (Aa (wl fun K hK=>?_)))
  refine wS 3 1 [] dh ci fun a0 en fn (dn:Kn 41 [(k,0)] [tS 9 a0 0 0,tP 3 0 0,tI 1 from_,tS 2 a_some_ some_.length c_some_] en) bw=>?_
  have c7:Af h ([]:List Int) ([]:List Value):=Af.nil
  refine hK _ _ ?_
  refine Rk 1 1 [tS 10 a_some_ some_.length c_some_,tS 9 a0 0 0,tP 3 0 0,tI 1 from_,tS 2 a_some_ some_.length c_some_] dn bw fun fd ds=>?_
  obtain⟨l,ba,ei,_⟩:=id hr_some_
  obtain⟨x11,ex11,H⟩:=Ap H
  obtain⟨b5,d6⟩:=AS ex11
  refine wl fun K hK=>?_
  refine AI 0 8 some_.length _ (x11.length) _ l ds bw rfl rfl (by decide) rfl (by rfl) (by kernel_rfl) (by rfl) (by rfl) (Af.len ba) (ei.cell bw.has ba.one) ba.one (by rw [b5]; simp <;> omega) (by rw [b5]; exact d6) (by decide) fun m o cv es ez de (dt:Kn 41 [(k,0)] [tS 11 m x11.length o,tS 10 a_some_ some_.length c_some_,tS 9 a0 0 0,tP 3 0 0,tI 1 from_,tS 2 a_some_ some_.length c_some_] es) ck=>?_
  have aj:Af h x11 (([]:List Value)++l):=by rw [b5]; exact Af.append c7 ba
  obtain rfl:cv=0:=Nat.le_zero.1 de
  refine hK _ _ ?_
  obtain⟨am,bc,ef,b0⟩:=ck.settle (i:=0) rfl
  replace s:=s.mono bc
  replace u:=u.mono bc
  replace hr_some_:=hr_some_.mono bc
  replace aj:=aj.mono bc
  replace b0:Aj ⟨w,h,A9⟩ am [(k,0)] [⟨D5 e y g f j,some 25⟩] [⟨m,x11.length,o,3,1,([]:List Value)++l,((([]:List Value)++l):List Value).length⟩] ez:=b0
  have ay:At am m o x11:=⟨_,aj,ef,ck.rowCap (i:=0) rfl⟩
  refine wl fun K hK=>?_
  refine wS 22 1 [.slice m x11.length o] dt b0 fun a2 et fp (du:Kn 41 [(k,0)] [tS 12 a2 1 1,tS 11 m x11.length o,tS 10 a_some_ some_.length c_some_,tS 9 a0 0 0,tP 3 0 0,tI 1 from_,tS 2 a_some_ some_.length c_some_] et) b1=>?_
  have c9:Af am ([x11]:List (List Int)) ([.slice m x11.length o]:List Value):=⟨_,_,rfl,((Ae ay):rep am (x11:List Int) _),rfl⟩
  refine hK _ _ ?_
  refine Rk 4 1 [tS 7 a2 1 1,tP 3 0 0,tI 1 from_,tS 2 a_some_ some_.length c_some_] du b1 fun ff dv=>?_
  refine wf (XT (XT (Aa (Rk 0 2 [tI 8 from_,tS 7 a2 1 1,tP 3 0 0,tS 2 a_some_ some_.length c_some_] dv b1 fun fg dw=>?_))))
  refine wf ?_
  obtain⟨z,cc,H⟩:=Ap H
  refine Aq (fun a' w'=>∃ (ac:Option Addr)(ag:Nat)(az:List Value)(b6:Array Value)(a7:Ac),a' = ⟨b6,[]⟩∧Kn 41 [(k,0)] [tS 7 ac z.length ag] b6∧Aj ⟨w,h,A9⟩ a7 [(k,0)] [⟨D5 e y g f j,some 25⟩] [⟨m,x11.length,o,3,1,([]:List Value)++l,((([]:List Value)++l):List Value).length⟩,⟨ac,z.length,ag,22,1,az,0⟩] w'∧Ac.le am a7∧Af a7 z az) ?_ ?_
  ·
   refine wp_block ?_
   refine Au (fun cn a' w'=>∃ (x_v10:List (List Int))(x_v11:Int)(b:Option Addr)(d:Nat)(p:List Value)(b7:Array Value)(ap:Ac),a' = ⟨b7,[]⟩∧Kn 41 [(k,0)] [tI 8 x_v11,tS 7 b x_v10.length d,tP 3 0 0,tS 2 a_some_ some_.length c_some_] b7∧Aj ⟨w,h,A9⟩ ap [(k,0)] [⟨D5 e y g f j,some 25⟩] (S1 m x11 o l b x_v10 d p) w'∧Ac.le am ap∧Af ap x_v10 p∧cn≤n∧Cz cn y some_ x_v10 x_v11=some z) n ?_ ?_
   ·
    exact XY ([x11]:List (List Int)) ⟨from_,a2,1,([.slice m x11.length o]:List Value),_,_,rfl,dw.kp,b1,Ac.le_refl _,c9,Nat.le_refl _,cc⟩
   ·
    rintro bh _ fq ⟨x_v10,x_v11,b,d,p,b7,ap,rfl,dx,aw,ak,an,e5,q⟩
    clear cc
    obtain _ | bh:=bh
    ·
     rw [Cz] at q; cases q
    rw [Cz] at q
    replace s:=s.mono ak
    replace u:=u.mono ak
    replace hr_some_:=hr_some_.mono ak
    replace ay:=ay.mono ak
    replace aj:=aj.mono ak
    refine XT (XT ?_)
    obtain⟨co,a5,q⟩:=Ap q
    refine Aq (fun a' w'=>∃ (b8:Array Value)(ai:Ac),a' = ⟨b8,[]⟩∧Kn 41 [(k,0)] [tI 8 x_v11,tS 7 b x_v10.length d,tP 3 0 0,tS 2 a_some_ some_.length c_some_,tB 25 co] b8∧Aj ⟨w,h,A9⟩ ai [(k,0)] [⟨D5 e y g f j,some 25⟩] (S1 m x11 o l b x_v10 d p) w'∧Ac.le ap ai) ?_ ?_
    ·
     refine Aa (Rk 0 6 [tB 19 (decide (x_v11<((y.buses.length:Nat):Int))),tI 8 x_v11,tS 7 b x_v10.length d,tP 3 0 0,tS 2 a_some_ some_.length c_some_] dx aw fun cq cf=>?_)
     rcases Bool.eq_false_or_eq_true (decide (x_v11<((y.buses.length:Nat):Int))) with aq | aq
     ·
      rw [aq,XW] at a5
      have dy:Kn 41 [(k,0)] [tB 19 true,tI 8 x_v11,tS 7 b x_v10.length d,tP 3 0 0,tS 2 a_some_ some_.length c_some_] cq:=(cf.setB 19 true (by rfl) aq).kp
      refine Rk 6 6 [tB 25 (decide (((some_.length:Nat):Int)<y.broken)),tI 8 x_v11,tS 7 b x_v10.length d,tP 3 0 0,tS 2 a_some_ some_.length c_some_] dy aw fun fh dz=>?_
      refine wf ?_
      obtain rfl:=XZ a5
      exact XY _ ⟨_,rfl,dz.kp,aw,Ac.le_refl _⟩
     ·
      rw [aq,XV] at a5
      have d0:Kn 41 [(k,0)] [tB 19 false,tI 8 x_v11,tS 7 b x_v10.length d,tP 3 0 0,tS 2 a_some_ some_.length c_some_] cq:=(cf.setB 19 false (by rfl) aq).kp
      refine Rk 6 6 [tB 25 false,tI 8 x_v11,tS 7 b x_v10.length d,tP 3 0 0,tS 2 a_some_ some_.length c_some_] d0 aw fun fi d1=>?_
      refine wf ?_
      obtain rfl:=XZ a5
      exact XY _ ⟨_,rfl,d1.kp,aw,Ac.le_refl _⟩
    ·
     rintro _ cr ⟨b8,ai,rfl,bt,ax,x⟩
     replace s:=s.mono x
     replace u:=u.mono x
     replace hr_some_:=hr_some_.mono x
     replace ay:=ay.mono x
     replace aj:=aj.mono x
     replace an:=an.mono x
     refine wC (co) bt (fun bp=>?_) (fun bp=>?_)
     ·
      rw [Bc bp] at q
      refine wp_skip (XT (wp_block (Ax (by kernel_rfl) ?_)))
      replace ax:=ax.drew
      refine A3 [] [(k,0)] [⟨D5 e y g f j,some 25⟩] ?_
      refine Dr [0,1,2,3,5,7] [7,5,3,2,1,0] ((tI 35 x_v11)::(tS 33 a_some_ some_.length c_some_)::(Ol x_v11 e y g f j b x_v10 d a_some_ some_ c_some_)) bt ax fun fj d2=>?_
      obtain⟨x34,ex34,q⟩:=Ap q
      obtain⟨x37,ex37,q⟩:=Ap q
      obtain⟨x38,ex38,q⟩:=Ap q
      obtain⟨x39,ex39,q⟩:=Ap q
      have d8:Aj ⟨w,h,A9⟩ ai [(k,0)] [⟨D5 e y g f j,some 25⟩] [⟨m,x11.length,o,3,1,([]:List Value)++l,((([]:List Value)++l):List Value).length⟩,⟨b,x_v10.length,d,22,1,p,0⟩,⟨none,0,0,3,1,[],0⟩] (World.drew cr):=ax.nilRow 3 1
      have d9:Aj ⟨w,h,A9⟩ ai [(k,0)] [⟨D5 e y g f j,some 25⟩] [⟨m,x11.length,o,3,1,([]:List Value)++l,((([]:List Value)++l):List Value).length⟩,⟨b,x_v10.length,d,22,1,p,0⟩,⟨none,0,0,3,1,[],0⟩,⟨none,0,0,3,1,[],0⟩] (World.drew cr):=d8.nilRow 3 1
      refine FQ (Vi 41 ⟨w,h,A9⟩ [(k,0)] [⟨D5 e y g f j,some 25⟩] [⟨D5 e y g f j,some 25⟩] [] [⟨8,36,3,1,1,[.int .i64 x_v11]⟩] [6,4,7,5,3,2,1,0] (fun mm cd rw=>∃ (ad:Option Addr)(ah:Nat)(aa:List Value),mm=((tS 34 ad x34.length ah)::(tI 35 x_v11)::(Ol x_v11 e y g f j b x_v10 d a_some_ some_ c_some_))∧rw=[⟨m,x11.length,o,3,1,([]:List Value)++l,((([]:List Value)++l):List Value).length⟩,⟨b,x_v10.length,d,22,1,p,0⟩,⟨ad,x34.length,ah,3,1,aa,0⟩]∧Ac.le ai cd∧Af cd x34 aa)) ?_ (fun ek=>?_)
      ·
       refine FX (J4 [(9,[true])] ?_ (fun _ _ _ hm=>hm.plOk) (by kernel_rfl) (by kernel_rfl) ⟨?_,trivial⟩)
       ·
        rintro _ _ _ ⟨ad,ah,aa,rfl,rfl,_,_⟩
        exact⟨⟨⟨_,_,_,rfl,rfl,rfl,rfl,rfl,by rfl,by rfl,by rfl,rfl,by kernel_rfl⟩,trivial⟩,by kernel_rfl⟩
       ·
        intro e0 e2 el a6 e6 e8 ev c1 cw cl cy ar bd
        obtain⟨ca,rfl⟩:=SW c1
        obtain⟨al,rfl⟩:=SW cw
        obtain rfl:ca=true:=by cases ca <;> first | rfl | exact(Bool.false_ne_true cl).elim
        obtain⟨ad,ah,aa,rfl,rfl,bb,da⟩:=cy
        replace ar:=ar.req [true] (by kernel_rfl) cl rfl
        have bq:Af a6 ([x_v11]:List Int) ([.int .i64 x_v11]:List Value):=⟨_,_,rfl,(Ad:rep a6 (x_v11:Int) _),rfl⟩
        replace ar:Kn 41 [(k,0)] ([tS 34 ad x34.length ah,tI 35 x_v11,tI 31 (IntKind.i64.wrap (x_v11+1)),tA 29 (D5 e y g f j),tS 28 b x_v10.length d,tI 8 x_v11,tP 3 0 0,tS 2 a_some_ some_.length c_some_,tS 36 al 1 1]++En [⟨8,36,3,1,1,[.int .i64 x_v11]⟩] [true] [al]) el:=ar
        replace bd:Aj ⟨w,h,A9⟩ a6 [(k,0)] [⟨D5 e y g f j,some 25⟩] [⟨m,x11.length,o,3,1,([]:List Value)++l,((([]:List Value)++l):List Value).length⟩,⟨b,x_v10.length,d,22,1,p,0⟩,⟨ad,x34.length,ah,3,1,aa,0⟩,⟨al,1,1,3,1,([.int .i64 x_v11]:List Value),0⟩] ev:=bd
        refine⟨_,rfl,rfl,fun K hK=>?_⟩
        obtain⟨b2,d3⟩:=AS ex37
        refine AI 2 8 1 _ (x37.length) _ ([.int .i64 x_v11]:List Value) ar bd rfl rfl (by decide) rfl (by rfl) (by kernel_rfl) (by rfl) (by rfl) (Af.len bq) (bd.rowCell (i:=3) rfl) bq.one (by rw [b2]; simp <;> omega) (by rw [b2]; exact d3) (by decide) fun ab af cs cp ew db (dg:Kn 41 [(k,0)] ([tS 37 ab x37.length af,tS 34 ad x34.length ah,tI 35 x_v11,tI 31 (IntKind.i64.wrap (x_v11+1)),tA 29 (D5 e y g f j),tS 28 b x_v10.length d,tI 8 x_v11,tP 3 0 0,tS 2 a_some_ some_.length c_some_,tS 36 al 1 1]++En [⟨8,36,3,1,1,[.int .i64 x_v11]⟩] [true] [al]) cp) bu=>?_
        have br:Af a6 x37 (aa++([.int .i64 x_v11]:List Value)):=by rw [b2]; exact Af.append da bq
        obtain rfl:cs=0:=Nat.le_zero.1 db
        refine hK _ _ bu.plOk ?_
        have di:Kn 41 [(k,0)] ((tS 37 ab x37.length af)::(Ol x_v11 e y g f j b x_v10 d a_some_ some_ c_some_)) cp:=dg.kp
        refine DV 10 rfl (by kernel_rfl) (Nat.le_of_ble_eq_true rfl) (rfl) fun K hK=>?_
        obtain⟨bn,av,ed,be⟩:=bu.settle (i:=2) rfl
        replace s:=s.mono (XU bb av)
        replace u:=u.mono (XU bb av)
        replace br:=br.mono av
        replace be:Aj ⟨w,h,A9⟩ bn [(k,0)] [⟨D5 e y g f j,some 25⟩] [⟨m,x11.length,o,3,1,([]:List Value)++l,((([]:List Value)++l):List Value).length⟩,⟨b,x_v10.length,d,22,1,p,0⟩,⟨ab,x37.length,af,3,1,aa++([.int .i64 x_v11]:List Value),((aa++([.int .i64 x_v11]:List Value)):List Value).length⟩,⟨al,1,1,3,1,([.int .i64 x_v11]:List Value),0⟩] ew:=be
        have ea:At bn ab af x37:=⟨_,br,ed,bu.rowCap (i:=2) rfl⟩
        refine wc [.agg (D5 e y g f j),.c (.int .i64 (IntKind.i64.wrap (x_v11+1))),.c (.slice ab x37.length af)] di be (ih bh (by omega) _ _ be.has y _ ((Ab (Ae s) (Ab (Ae u) Ad)):rep bn y _) (IntKind.i64.wrap (x_v11+1)) x37 _ _ ea _ ex38) fun fk c3 fl c0 cg bv=>?_
        replace an:=an.mono (XU (XU bb av) cg)
        obtain⟨bj,bl,rfl,eb⟩:=c0
        refine⟨.one (.c (.slice bj x38.length bl)),rfl,fun em (dj:Kn 41 [(k,0)] ((tS 38 bj x38.length bl)::(tS 37 ab x37.length af)::(Ol x_v11 e y g f j b x_v10 d a_some_ some_ c_some_)) em)=>hK _ _ bv.plOk ?_⟩
        refine DV 11 rfl (by kernel_rfl) (Nat.le_of_ble_eq_true rfl) (rfl) fun K hK=>?_
        obtain⟨b9,a8,eg,_⟩:=id eb
        obtain⟨b3,d4⟩:=AS ex39
        refine AI 1 24 x38.length _ (x39.length) _ b9 dj bv rfl rfl (by decide) rfl (by rfl) (by kernel_rfl) (by rfl) (by rfl) (Af.len a8) (eg.cell bv.has a8.one) a8.one (by rw [b3]; simp <;> omega) (by rw [b3]; exact d4) (by decide) fun a1 a4 ct eo fm dc (dk:Kn 41 [(k,0)] ((tS 39 a1 x39.length a4)::(tS 38 bj x38.length bl)::(tS 37 ab x37.length af)::(Ol x_v11 e y g f j b x_v10 d a_some_ some_ c_some_)) eo) bf=>?_
        have c5:Af c3 x39 (p++b9):=by rw [b3]; exact Af.append an a8
        obtain rfl:ct=0:=Nat.le_zero.1 dc
        refine hK _ _ bf.plOk ?_
        refine Dr [12] [12,11,10,9,8,6,4,7,5,3,2,1,0] [tS 7 a1 x39.length a4,tI 8 x_v11,tP 3 0 0,tS 2 a_some_ some_.length c_some_] dk bf fun fb dl=>?_
        refine AE (by kernel_rfl) (Aa (Rk 0 3 [tI 8 (IntKind.i64.wrap (x_v11+1)),tS 7 a1 x39.length a4,tP 3 0 0,tS 2 a_some_ some_.length c_some_] dl bf fun fc dm=>?_))
        refine wf ?_
        exact XY bh ⟨Nat.lt_succ_self _,XY x39 ⟨IntKind.i64.wrap (x_v11+1),a1,a4,p++b9,_,_,rfl,dm.kp,bf.cutRw 2,XU ak (XU x (XU bb (XU av cg))),c5,(by omega),q⟩⟩
      refine FQ (Vi 41 ⟨w,h,A9⟩ [(k,0)] [⟨D5 e y g f j,some 25⟩] [⟨D5 e y g f j,some 25⟩] [] [⟨4,32,3,1,0,[]⟩,⟨8,36,3,1,1,[.int .i64 x_v11]⟩] [7,5,3,2,1,0] (fun mm c4 rw=>mm=((tI 35 x_v11)::(tS 33 a_some_ some_.length c_some_)::(Ol x_v11 e y g f j b x_v10 d a_some_ some_ c_some_))∧rw=(S1 m x11 o l b x_v10 d p)∧Ac.le ai c4)) ?_ (fun ej=>?_)
      ·
       refine FX (J4 [(6,[true,false])] ?_ (fun _ _ _ hm=>hm.plOk) (by kernel_rfl) (by kernel_rfl) ⟨?_,trivial⟩)
       ·
        rintro _ _ _ ⟨rfl,rfl,_⟩
        exact⟨⟨⟨_,_,_,rfl,rfl,rfl,rfl,rfl,by rfl,by rfl,by rfl,rfl,by kernel_rfl⟩,⟨⟨_,_,_,rfl,rfl,rfl,rfl,rfl,by rfl,by rfl,by rfl,rfl,by kernel_rfl⟩,trivial⟩⟩,by kernel_rfl⟩
       ·
        intro e1 e3 ep bo e7 e9 ex c2 cx cm cz au bg
        obtain⟨cb,ae,rfl⟩:=SX c2
        obtain⟨ao,a3,rfl⟩:=SX cx
        obtain rfl:cb=true:=by cases cb <;> first | rfl | exact(Bool.false_ne_true cm).elim
        obtain⟨rfl,rfl,ch⟩:=cz
        replace hr_some_:=hr_some_.mono ch
        replace au:=au.req [true,false] (by kernel_rfl) cm rfl
        have c6:Af bo ([]:List Int) ([]:List Value):=Af.nil
        replace au:Kn 41 [(k,0)] ([tI 35 x_v11,tS 33 a_some_ some_.length c_some_,tI 31 (IntKind.i64.wrap (x_v11+1)),tA 29 (D5 e y g f j),tS 28 b x_v10.length d,tI 8 x_v11,tP 3 0 0,tS 2 a_some_ some_.length c_some_,tS 32 ao 0 0]++En [⟨4,32,3,1,0,[]⟩,⟨8,36,3,1,1,[.int .i64 x_v11]⟩] [true,ae] [ao,a3]) ep:=au
        replace bg:Aj ⟨w,h,A9⟩ bo [(k,0)] [⟨D5 e y g f j,some 25⟩] [⟨m,x11.length,o,3,1,([]:List Value)++l,((([]:List Value)++l):List Value).length⟩,⟨b,x_v10.length,d,22,1,p,0⟩,⟨ao,0,0,3,1,([]:List Value),0⟩,Vh [(k,0)] ⟨8,36,3,1,1,[.int .i64 x_v11]⟩ ae a3] ex:=bg
        refine⟨_,rfl,rfl,fun K hK=>?_⟩
        obtain⟨bi,a9,eh,_⟩:=id hr_some_
        obtain⟨b4,d5⟩:=AS ex34
        refine AI 2 8 some_.length _ (x34.length) _ bi au bg rfl rfl (by decide) rfl (by rfl) (by kernel_rfl) (by rfl) (by rfl) (Af.len a9) (eh.cell bg.has a9.one) a9.one (by rw [b4]; simp <;> omega) (by rw [b4]; exact d5) (by decide) fun bk bm cu er fo dd (dp:Kn 41 [(k,0)] ([tS 34 bk x34.length bm,tI 35 x_v11,tS 33 a_some_ some_.length c_some_,tI 31 (IntKind.i64.wrap (x_v11+1)),tA 29 (D5 e y g f j),tS 28 b x_v10.length d,tI 8 x_v11,tP 3 0 0,tS 2 a_some_ some_.length c_some_,tS 32 ao 0 0]++En [⟨4,32,3,1,0,[]⟩,⟨8,36,3,1,1,[.int .i64 x_v11]⟩] [true,ae] [ao,a3]) er) cj=>?_
        have c8:Af bo x34 (([]:List Value)++bi):=by rw [b4]; exact Af.append c6 a9
        obtain rfl:cu=0:=Nat.le_zero.1 dd
        refine hK _ _ cj.plOk ?_
        refine GQ (Tg [⟨8,36,3,1,1,[.int .i64 x_v11]⟩] [ae]++[6,4,7,5,3,2,1,0]) (by cases ae <;> kernel_rfl) (by cases ae <;> rfl) (ek [ae] _ _ ⟨[a3],_,_,_,[⟨m,x11.length,o,3,1,([]:List Value)++l,((([]:List Value)++l):List Value).length⟩,⟨b,x_v10.length,d,22,1,p,0⟩,⟨bk,x34.length,bm,3,1,([]:List Value)++bi,0⟩],rfl,rfl,rfl,⟨bk,bm,([]:List Value)++bi,rfl,rfl,ch,c8⟩,dp.next [false,true] _ (by kernel_rfl) (by rfl) (by kernel_rfl),cj.pickRows [0,1,2,3] (by kernel_rfl) (by kernel_rfl)⟩)
      exact ej [false,false] _ _ ⟨[none,none],_,_,((tI 35 x_v11)::(tS 33 a_some_ some_.length c_some_)::(Ol x_v11 e y g f j b x_v10 d a_some_ some_ c_some_)),S1 m x11 o l b x_v10 d p,rfl,rfl,rfl,⟨rfl,rfl,Ac.le_refl _⟩,d2.kp,d9⟩
     ·
      rw [Bd bp] at q
      refine wp_exit ?_
      obtain rfl:=XZ q
      exact XY b ⟨d,p,_,_,rfl,bt.kp,ax,XU ak x,an⟩
  ·
   rintro _ ey ⟨ac,ag,az,b6,a7,rfl,dq,bx,e4,bs⟩
   refine XT (Aa (Rk 0 2 [tS 6 ac z.length ag] dq bx fun fe dr=>?_))
   refine wf (wp_ret ?_)
   obtain⟨ce,d7,ee,bz⟩:=bx.settle (i:=1) rfl
   replace bs:=bs.mono d7
   replace bz:Aj ⟨w,h,A9⟩ ce [(k,0)] [⟨D5 e y g f j,some 25⟩] [⟨m,x11.length,o,3,1,([]:List Value)++l,((([]:List Value)++l):List Value).length⟩,⟨ac,z.length,ag,22,1,az,(az:List Value).length⟩] ey:=bz
   have ec:At ce ac ag z:=⟨_,bs,ee,bx.rowCap (i:=1) rfl⟩
   obtain rfl:=XZ H
   exact rt (.one (.c (.slice ac z.length ag))) dr bz ⟨_,_,rfl,ec⟩
theorem JY (n:Nat) {h:Ac} {w:World} (hh:Db h w) (y:Ag) {cs_y:List Value} (hx_y:rep h y cs_y) (from_:Int) (some_:List Int) {a_some_:Option Addr} {c_some_:Nat} (hr_some_:At h a_some_ c_some_ some_) {r:List (List Int)} (H:ref_Breaks n y from_ some_=some r) :
  Calls Tryz.prog 17 #[.agg cs_y.toArray,.int .i64 from_,.slice a_some_ some_.length c_some_] w (Dd (fun h v=>∃ a c,v=.slice a r.length c∧At h a c r) h w):=Om n h w hh y cs_y hx_y from_ some_ a_some_ c_some_ hr_some_ r H
abbrev G4 (a:Option Addr) (y:Ag) (e:Nat) (d:Option Addr) (f:Nat):List SC:=[.slice a y.room.length e,.slice d y.buses.length f,.int .i64 y.broken]
abbrev EM (a_lanes:Option Addr) (lanes:List Int) (c_lanes:Nat) (a_orders:Option Addr) (orders:List (List Int)) (c_orders:Nat) (a_breaks:Option Addr) (breaks:List (List Int)) (c_breaks:Nat):TM:=[tP 4 0 0,tS 1 a_lanes lanes.length c_lanes,tS 2 a_orders orders.length c_orders,tS 3 a_breaks breaks.length c_breaks]
set_option maxRecDepth 100000 in
set_option maxHeartbeats 4000000 in
theorem Lu (n:Nat) {h:Ac} {w:World} (hh:Db h w) (y:Ag) {cs_y:List Value} (hx_y:rep h y cs_y) (lanes:List Int) {a_lanes:Option Addr} {c_lanes:Nat} (hr_lanes:At h a_lanes c_lanes lanes) (orders:List (List Int)) {a_orders:Option Addr} {c_orders:Nat} (hr_orders:At h a_orders c_orders orders) (breaks:List (List Int)) {a_breaks:Option Addr} {c_breaks:Nat} (hr_breaks:At h a_breaks c_breaks breaks) {r:Int} (H:FW n y lanes orders breaks=some r) :
  Calls Tryz.prog 15 #[.agg cs_y.toArray,.slice a_lanes lanes.length c_lanes,.slice a_orders orders.length c_orders,.slice a_breaks breaks.length c_breaks] w (Dd (fun h v=>v=.int .i64 r) h w):=by
 obtain⟨_,_,rfl,⟨a,e,rfl,aa⟩,⟨_,_,rfl,⟨d,f,rfl,ab⟩,rfl⟩⟩:=hx_y
 refine enter 39 [.agg (G4 a y e d f),.c (.slice a_lanes lanes.length c_lanes),.c (.slice a_orders orders.length c_orders),.c (.slice a_breaks breaks.length c_breaks)] Tryz.func15 rfl rfl rfl rfl fun t hk=>?_
 have hm:=Aj.begin h w hh
 unfold FW at H
 refine XT (Aa (wl fun K hK=>?_))
 refine wb (.agg (G4 a y e d f)) hk hm fun g cc c3 (bd:Kn 39 [(g,0)] [tP 4 0 0,tA 0 (G4 a y e d f),tS 1 a_lanes lanes.length c_lanes,tS 2 a_orders orders.length c_orders,tS 3 a_breaks breaks.length c_breaks] cc) ae=>hK _ _ ?_
 refine Rk 1 1 (EM a_lanes lanes c_lanes a_orders orders c_orders a_breaks breaks c_breaks) bd ae fun co bl=>?_
 refine wf (XT (Aa (Rk 0 1 ((tI 9 0)::(EM a_lanes lanes c_lanes a_orders orders c_orders a_breaks breaks c_breaks)) bl ae fun cp bm=>?_)))
 refine wf (XT (XT (Aa (Rk 0 1 ((tI 10 0)::(tI 9 0)::(EM a_lanes lanes c_lanes a_orders orders c_orders a_breaks breaks c_breaks)) bm ae fun cq bn=>?_))))
 refine wf ?_
 obtain⟨aj,a4,H⟩:=Ap H
 refine Aq (fun a' w'=>∃ (ay:Array Value)(an:Ac),a' = ⟨ay,[]⟩∧Kn 39 [(g,0)] [tI 9 aj] ay∧Aj ⟨w,h,A9⟩ an [(g,0)] [⟨G4 a y e d f,some 25⟩] [] w'∧Ac.le h an) ?_ ?_
 ·
  refine wp_block ?_
  refine Au (fun b9 a' w'=>∃ (x_v10:Int)(x_v11:Int)(az:Array Value)(z:Ac),a' = ⟨az,[]⟩∧Kn 39 [(g,0)] ((tI 10 x_v10)::(tI 9 x_v11)::(EM a_lanes lanes c_lanes a_orders orders c_orders a_breaks breaks c_breaks)) az∧Aj ⟨w,h,A9⟩ z [(g,0)] [⟨G4 a y e d f,some 25⟩] [] w'∧Ac.le h z∧Dn b9 y lanes orders breaks x_v10 x_v11=some aj) n ?_ ?_
  ·
   exact XY 0 ⟨0,_,_,rfl,bn.kp,ae,Ac.le_refl _,a4⟩
  ·
   rintro ah _ c1 ⟨x_v10,x_v11,az,z,rfl,bo,af,p,k⟩
   clear a4
   obtain _ | ah:=ah
   ·
    rw [Dn] at k; cases k
   rw [Dn] at k
   replace aa:=aa.mono p
   replace ab:=ab.mono p
   replace hr_lanes:=hr_lanes.mono p
   replace hr_orders:=hr_orders.mono p
   replace hr_breaks:=hr_breaks.mono p
   refine XT (XT (Aa (Rk 0 4 ((tB 15 (decide (x_v10<((orders.length:Nat):Int))))::(tI 10 x_v10)::(tI 9 x_v11)::(EM a_lanes lanes c_lanes a_orders orders c_orders a_breaks breaks c_breaks)) bo af fun cr ar=>?_)))
   refine wf (wC (decide (x_v10<((orders.length:Nat):Int))) ar (fun ap=>?_) (fun ap=>?_))
   ·
    rw [ap,XW] at k
    refine wp_skip (XT (wp_block (XT (Aa (Rk 0 1 ((tI 11 0)::(tI 10 x_v10)::(tI 9 x_v11)::(EM a_lanes lanes c_lanes a_orders orders c_orders a_breaks breaks c_breaks)) ar af fun ct bp=>?_)))))
    refine wf ?_
    obtain⟨ak,a5,k⟩:=Ap k
    refine Aq (fun a' w'=>∃ (a0:Array Value)(ao:Ac),a' = ⟨a0,[]⟩∧Kn 39 [(g,0)] ((tI 10 x_v10)::(tI 9 ak)::(EM a_lanes lanes c_lanes a_orders orders c_orders a_breaks breaks c_breaks)) a0∧Aj ⟨w,h,A9⟩ ao [(g,0)] [⟨G4 a y e d f,some 25⟩] [] w'∧Ac.le z ao) ?_ ?_
    ·
     refine wp_block ?_
     refine Au (fun ca a' w'=>∃ (x_v20:Int)(x_v21:Int)(a1:Array Value)(ad:Ac),a' = ⟨a1,[]⟩∧Kn 39 [(g,0)] ((tI 11 x_v20)::(tI 10 x_v10)::(tI 9 x_v21)::(EM a_lanes lanes c_lanes a_orders orders c_orders a_breaks breaks c_breaks)) a1∧Aj ⟨w,h,A9⟩ ad [(g,0)] [⟨G4 a y e d f,some 25⟩] [] w'∧Ac.le z ad∧Dm ca y lanes orders breaks x_v10 x_v20 x_v21=some ak) ah ?_ ?_
     ·
      exact XY 0 ⟨x_v11,_,_,rfl,bp.kp,af,Ac.le_refl _,a5⟩
     ·
      rintro ai _ c2 ⟨x_v20,x_v21,a1,ad,rfl,bq,s,q,i⟩
      clear a5
      obtain _ | ai:=ai
      ·
       rw [Dm] at i; cases i
      rw [Dm] at i
      replace aa:=aa.mono q
      replace ab:=ab.mono q
      replace hr_lanes:=hr_lanes.mono q
      replace hr_orders:=hr_orders.mono q
      replace hr_breaks:=hr_breaks.mono q
      refine XT (XT (Aa (Rk 0 4 ((tB 21 (decide (x_v20<((breaks.length:Nat):Int))))::(tI 11 x_v20)::(tI 10 x_v10)::(tI 9 x_v21)::(EM a_lanes lanes c_lanes a_orders orders c_orders a_breaks breaks c_breaks)) bq s fun cu au=>?_)))
      refine wf (wC (decide (x_v20<((breaks.length:Nat):Int))) au (fun aq=>?_) (fun aq=>?_))
      ·
       rw [aq,XW] at i
       refine wp_skip (XT (wp_block (Ax (by kernel_rfl) ?_)))
       replace s:=s.drew
       refine A3 [] [(g,0)] [⟨G4 a y e d f,some 25⟩] ?_
       refine Dr [0,1,2,3,4] (dn 4) ((tI 28 x_v10)::(tS 27 a_orders orders.length c_orders)::(tS 26 a_lanes lanes.length c_lanes)::(tA 25 (G4 a y e d f))::(tI 24 x_v21)::(tI 11 x_v20)::(tI 10 x_v10)::(EM a_lanes lanes c_lanes a_orders orders c_orders a_breaks breaks c_breaks)) au s fun cv br=>?_
       obtain⟨x29,ex29,i⟩:=Ap i
       obtain⟨bz,b1,b7⟩:=Ak ex29
       obtain⟨ac,al,cf,a9,b5,bb⟩:=hr_orders.get (by decide) b7
       obtain⟨l,m,rfl,b3⟩:=b5
       have av:=s.addPlc (b:=ac) (o:=al+(x_v10:Int).toNat*1) (cs:=[.slice l x29.length m]) (fun j c hj=>bb j _ (Am hj)) rfl (by kernel_rfl) (by kernel_rfl)
       refine AA 5 (x_v10) [.slice l x29.length m] (fun _ _ _ _ _ h=>h) rfl rfl (rfl) rfl (by decide) (by kernel_rfl) (by kernel_rfl) br s.plOk (by rfl) (by rfl) (by rfl) a9 (by rfl) bz b1 (by kernel_rfl) fun cb (bs:Kn 39 [(g,0),(ac,al+(x_v10:Int).toNat*1)] ((tP 29 1 0)::(tI 28 x_v10)::(tS 27 a_orders orders.length c_orders)::(tS 26 a_lanes lanes.length c_lanes)::(tA 25 (G4 a y e d f))::(tI 24 x_v21)::(tI 11 x_v20)::(tI 10 x_v10)::(EM a_lanes lanes c_lanes a_orders orders c_orders a_breaks breaks c_breaks)) cb)=>?_
       refine Dr [6,7,8] (dn 8) ((tI 32 x_v20)::(tS 31 a_breaks breaks.length c_breaks)::(tS 30 l x29.length m)::(tS 26 a_lanes lanes.length c_lanes)::(tA 25 (G4 a y e d f))::(tI 24 x_v21)::(tI 11 x_v20)::(tI 10 x_v10)::(EM a_lanes lanes c_lanes a_orders orders c_orders a_breaks breaks c_breaks)) bs av fun cw bt=>?_
       obtain⟨x33,ex33,i⟩:=Ap i
       obtain⟨b0,b2,b8⟩:=Ak ex33
       obtain⟨am,ax,cg,ba,b6,bc⟩:=hr_breaks.get (by decide) b8
       obtain⟨u,x,rfl,b4⟩:=b6
       have aw:=av.addPlc (b:=am) (o:=ax+(x_v20:Int).toNat*1) (cs:=[.slice u x33.length x]) (fun j c hj=>bc j _ (Am hj)) rfl (by kernel_rfl) (by kernel_rfl)
       refine AA 9 (x_v20) [.slice u x33.length x] (fun _ _ _ _ _ h=>h) rfl rfl (rfl) rfl (by decide) (by kernel_rfl) (by kernel_rfl) bt av.plOk (by rfl) (by rfl) (by rfl) ba (by rfl) b0 b2 (by kernel_rfl) fun cd (bu:Kn 39 [(g,0),(ac,al+(x_v10:Int).toNat*1),(am,ax+(x_v20:Int).toNat*1)] ((tP 33 2 0)::(tI 32 x_v20)::(tS 31 a_breaks breaks.length c_breaks)::(tS 30 l x29.length m)::(tS 26 a_lanes lanes.length c_lanes)::(tA 25 (G4 a y e d f))::(tI 24 x_v21)::(tI 11 x_v20)::(tI 10 x_v10)::(EM a_lanes lanes c_lanes a_orders orders c_orders a_breaks breaks c_breaks)) cd)=>?_
       refine Dr [10] (dn 10) ((tS 34 u x33.length x)::(tS 30 l x29.length m)::(tS 26 a_lanes lanes.length c_lanes)::(tA 25 (G4 a y e d f))::(tI 24 x_v21)::(tI 11 x_v20)::(tI 10 x_v10)::(EM a_lanes lanes c_lanes a_orders orders c_orders a_breaks breaks c_breaks)) bu aw fun cx bv=>?_
       obtain⟨x35,ex35,i⟩:=Ap i
       refine Dl 11 fun K hK=>?_
       refine wc [.agg (G4 a y e d f),.c (.slice a_lanes lanes.length c_lanes),.c (.slice l x29.length m),.c (.slice u x33.length x)] bv aw (JW ai aw.has y ((Ab (Ae aa) (Ab (Ae ab) Ad)):rep ad y _) lanes hr_lanes x29 b3 x33 b4 ex35) fun cy ch c4 a8 bx ag=>?_
       obtain⟨a2,a3,rfl,cj⟩:=a8
       refine⟨.one (.c (.slice a2 x35.length a3)),rfl,fun ce (be:Kn 39 [(g,0),(ac,al+(x_v10:Int).toNat*1),(am,ax+(x_v20:Int).toNat*1)] ((tS 35 a2 x35.length a3)::(tS 34 u x33.length x)::(tS 30 l x29.length m)::(tS 26 a_lanes lanes.length c_lanes)::(tA 25 (G4 a y e d f))::(tI 24 x_v21)::(tI 11 x_v20)::(tI 10 x_v10)::(EM a_lanes lanes c_lanes a_orders orders c_orders a_breaks breaks c_breaks)) ce)=>hK _ _ ag.plOk ?_⟩
       refine Dr [12,13,14] (dn 14) ((tI 9 (if ((x35.length:Nat):Int)>x_v21 then((x35.length:Nat):Int) else x_v21))::(tI 11 x_v20)::(tI 10 x_v10)::(EM a_lanes lanes c_lanes a_orders orders c_orders a_breaks breaks c_breaks)) be ag fun ck bf=>?_
       refine AE (by kernel_rfl) (Aa (Rk 0 3 ((tI 11 (IntKind.i64.wrap (x_v20+1)))::(tI 9 (if ((x35.length:Nat):Int)>x_v21 then((x35.length:Nat):Int) else x_v21))::(tI 10 x_v10)::(EM a_lanes lanes c_lanes a_orders orders c_orders a_breaks breaks c_breaks)) bf ag fun cl bg=>?_))
       refine wf ?_
       exact XY ai ⟨Nat.lt_succ_self _,XY (IntKind.i64.wrap (x_v20+1)) ⟨(if ((x35.length:Nat):Int)>x_v21 then((x35.length:Nat):Int) else x_v21),_,_,rfl,(bg.keep [11,10,9,4,1,2,3] (by rfl)).cut 1 (by kernel_rfl),ag.cutPl 1 (by kernel_rfl),XU q bx,i⟩⟩
      ·
       rw [aq,XV] at i
       refine wp_exit ?_
       obtain rfl:=XZ i
       exact XY _ ⟨_,rfl,au.kp,s,q⟩
    ·
     rintro _ cz ⟨a0,ao,rfl,bh,a6,bw⟩
     refine Aa (Rk 0 3 ((tI 10 (IntKind.i64.wrap (x_v10+1)))::(tI 9 ak)::(EM a_lanes lanes c_lanes a_orders orders c_orders a_breaks breaks c_breaks)) bh a6 fun cm bi=>?_)
     refine wf ?_
     exact XY ah ⟨Nat.lt_succ_self _,XY (IntKind.i64.wrap (x_v10+1)) ⟨ak,_,_,rfl,bi.kp,a6,XU p bw,k⟩⟩
   ·
    rw [ap,XV] at k
    refine wp_exit ?_
    obtain rfl:=XZ k
    exact XY _ ⟨_,rfl,ar.kp,af,p⟩
 ·
  rintro _ c0 ⟨ay,an,rfl,bj,a7,ci⟩
  refine XT (Aa (Rk 0 2 [tI 8 aj] bj a7 fun cn bk=>?_))
  refine wf (wp_ret ?_)
  obtain rfl:=XZ H
  exact rt (.one (.c (.int .i64 aj))) bk a7 rfl
abbrev C0 (b:Option Addr) (y:Ag) (e:Nat) (d:Option Addr) (f:Nat):List SC:=[.slice b y.room.length e,.slice d y.buses.length f,.int .i64 y.broken]
abbrev G5 (a_orders:Option Addr) (orders:List (List Int)) (c_orders:Nat) (a_breaks:Option Addr) (breaks:List (List Int)) (c_breaks:Nat) (a_begins:Option Addr) (begins:List Int) (c_begins:Nat):TM:=[tP 4 0 0,tS 1 a_orders orders.length c_orders,tS 2 a_breaks breaks.length c_breaks,tS 3 a_begins begins.length c_begins]
abbrev EN (x_v10 x_v11:Int) (g:Option Addr) (x_v12:(List Int)) (j:Nat) (a_orders:Option Addr) (orders:List (List Int)) (c_orders:Nat) (a_breaks:Option Addr) (breaks:List (List Int)) (c_breaks:Nat) (a_begins:Option Addr) (begins:List Int) (c_begins:Nat):TM:=(tI 12 x_v10)::(tI 11 x_v11)::(tS 10 g x_v12.length j)::(G5 a_orders orders c_orders a_breaks breaks c_breaks a_begins begins c_begins)
set_option maxRecDepth 100000 in
set_option maxHeartbeats 4000000 in
theorem PT (n:Nat):∀ (h:Ac)(w:World)(hh:Db h w)(y:Ag)(cs_y:List Value)(hx_y:rep h y cs_y)(orders:List (List Int))(a_orders:Option Addr)(c_orders:Nat)(hr_orders:At h a_orders c_orders orders)(breaks:List (List Int))(a_breaks:Option Addr)(c_breaks:Nat)(hr_breaks:At h a_breaks c_breaks breaks)(begins:List Int)(a_begins:Option Addr)(c_begins:Nat)(hr_begins:At h a_begins c_begins begins)(r:(List Int)×Int)(H:ref_Best n y orders breaks begins=some r),
  Calls Tryz.prog 20 #[.agg cs_y.toArray,.slice a_orders orders.length c_orders,.slice a_breaks breaks.length c_breaks,.slice a_begins begins.length c_begins] w (Dd (fun h v=>∃ v0 v1,v=.tuple #[v0,v1]∧(∃ a c,v0=.slice a r.1.length c∧At h a c r.1)∧(v1=.int .i64 r.2)) h w):=by
 induction n using Nat.strongRecOn with
 | _ n ih =>
  intro h w hh y cs_y hx_y orders a_orders c_orders hr_orders breaks a_breaks c_breaks hr_breaks begins a_begins c_begins hr_begins r H
  obtain _ | n:=n
  ·
   rw [ref_Best] at H; cases H
  obtain⟨_,_,rfl,⟨b,e,rfl,z⟩,⟨_,_,rfl,⟨d,f,rfl,aa⟩,rfl⟩⟩:=hx_y
  refine enter 66 [.agg (C0 b y e d f),.c (.slice a_orders orders.length c_orders),.c (.slice a_breaks breaks.length c_breaks),.c (.slice a_begins begins.length c_begins)] Tryz.func20 rfl rfl rfl rfl fun t hk=>?_
  have hm:=Aj.begin h w hh
  rw [ref_Best] at H
  refine XT (Aa (wl fun K hK=>?_))
  refine wb (.agg (C0 b y e d f)) hk hm fun k d4 fh (ct:Kn 66 [(k,0)] [tP 4 0 0,tA 0 (C0 b y e d f),tS 1 a_orders orders.length c_orders,tS 2 a_breaks breaks.length c_breaks,tS 3 a_begins begins.length c_begins] d4) x=>hK _ _ ?_
  refine Rk 1 2 (G5 a_orders orders c_orders a_breaks breaks c_breaks a_begins begins c_begins) ct x fun el cx=>?_
  refine wf (XT (XT (Aa (Rk 0 6 ((tB 20 (((begins.length:Nat):Int) == ((y.buses.length:Nat):Int)))::(G5 a_orders orders c_orders a_breaks breaks c_breaks a_begins begins c_begins)) cx x fun eo bi=>?_))))
  refine wf (wC ((((begins.length:Nat):Int) == ((y.buses.length:Nat):Int))) bi (fun bc=>?_) (fun bc=>?_))
  ·
   rw [bc,XW] at H
   refine XT (XT (Aa (Rk 0 2 ((tS 22 a_begins begins.length c_begins)::(tA 21 (C0 b y e d f))::(G5 a_orders orders c_orders a_breaks breaks c_breaks a_begins begins c_begins)) bi x fun ey c9=>?_)))
   obtain⟨x23,ex23,H⟩:=Ap H
   refine wl fun K hK=>?_
   refine wc [.agg (C0 b y e d f),.c (.slice a_begins begins.length c_begins)] c9 x (Jn n x.has y ((Ab (Ae z) (Ab (Ae aa) Ad)):rep h y _) begins hr_begins ex23) fun fa cn ff ci ax al=>?_
   replace z:=z.mono ax
   replace aa:=aa.mono ax
   replace hr_orders:=hr_orders.mono ax
   replace hr_breaks:=hr_breaks.mono ax
   replace hr_begins:=hr_begins.mono ax
   obtain rfl:=ci
   refine⟨.one (.c (.bool x23)),rfl,fun d2 (dd:Kn 66 [(k,0)] ((tB 23 x23)::(tS 22 a_begins begins.length c_begins)::(tA 21 (C0 b y e d f))::(G5 a_orders orders c_orders a_breaks breaks c_breaks a_begins begins c_begins)) d2)=>hK _ _ ?_⟩
   refine Rk 3 1 ((tB 24 (!x23))::(G5 a_orders orders c_orders a_breaks breaks c_breaks a_begins begins c_begins)) dd al fun e0 bj=>?_
   refine wf (wC ((!x23)) bj (fun bd=>?_) (fun bd=>?_))
   ·
    rw [bd,XW] at H
    refine XT (Aa (Rk 0 2 [tI 9 (-1),tS 8 none 0 0] bj al fun e1 de=>?_))
    refine wf (wp_ret ?_)
    obtain rfl:=XZ H
    exact rt (.tup [.c (.slice none 0 0),.c (.int .i64 (-1))]) de al ⟨_,_,rfl,⟨_,_,rfl,At.nil⟩,rfl⟩
   ·
    rw [bd,XV] at H
    refine wp_skip (XT (Aa (Rk 0 5 [tS 29 a_breaks breaks.length c_breaks,tS 28 a_orders orders.length c_orders,tS 27 a_begins begins.length c_begins,tA 26 (C0 b y e d f),tS 25 a_begins begins.length c_begins] bj al fun e2 df=>?_)))
    obtain⟨x30,ex30,H⟩:=Ap H
    refine wl fun K hK=>?_
    refine wc [.agg (C0 b y e d f),.c (.slice a_begins begins.length c_begins),.c (.slice a_orders orders.length c_orders),.c (.slice a_breaks breaks.length c_breaks)] df al (Lu n al.has y ((Ab (Ae z) (Ab (Ae aa) Ad)):rep cn y _) begins hr_begins orders hr_orders breaks hr_breaks ex30) fun fb ee fg cj dq b2=>?_
    replace hr_begins:=hr_begins.mono dq
    obtain rfl:=cj
    refine⟨.one (.c (.int .i64 x30)),rfl,fun d3 (dg:Kn 66 [(k,0)] [tI 30 x30,tS 29 a_breaks breaks.length c_breaks,tS 28 a_orders orders.length c_orders,tS 27 a_begins begins.length c_begins,tA 26 (C0 b y e d f),tS 25 a_begins begins.length c_begins] d3)=>hK _ _ ?_⟩
    refine Rk 6 2 [tI 9 x30,tS 8 a_begins begins.length c_begins] dg b2 fun e3 dh=>?_
    refine wf (wp_ret ?_)
    obtain rfl:=XZ H
    exact rt (.tup [.c (.slice a_begins begins.length c_begins),.c (.int .i64 x30)]) dh b2 ⟨_,_,rfl,⟨_,_,rfl,hr_begins⟩,rfl⟩
  ·
   rw [bc,XV] at H
   refine wp_skip (XT (Aa (Rk 0 1 ((tS 10 none 0 0)::(G5 a_orders orders c_orders a_breaks breaks c_breaks a_begins begins c_begins)) bi x fun e4 di=>?_)))
   refine wf (XT (Aa (Rk 0 1 ((tI 11 (-1))::(tS 10 none 0 0)::(G5 a_orders orders c_orders a_breaks breaks c_breaks a_begins begins c_begins)) di x fun e5 dj=>?_)))
   refine wf (XT (XT (Aa (Rk 0 1 ((tI 12 0)::(tI 11 (-1))::(tS 10 none 0 0)::(G5 a_orders orders c_orders a_breaks breaks c_breaks a_begins begins c_begins)) dj x fun e6 dk=>?_))))
   refine wf ?_
   obtain⟨ac,bs,H⟩:=Ap H
   refine Aq (fun a' w'=>∃ (an:Option Addr)(ap:Nat)(bo:Array Value)(a0:Ac),a' = ⟨bo,[]⟩∧Kn 66 [(k,0)] [tI 11 ac.1,tS 10 an ac.2.length ap] bo∧Aj ⟨w,h,A9⟩ a0 [(k,0)] [⟨C0 b y e d f,some 25⟩] [] w'∧Ac.le h a0∧At a0 an ap ac.2) ?_ ?_
   ·
    refine wp_block ?_
    refine Au (fun b6 a' w'=>∃ (x_v10:Int)(x_v11:Int)(x_v12:(List Int))(g:Option Addr)(j:Nat)(bp:Array Value)(ab:Ac),a' = ⟨bp,[]⟩∧Kn 66 [(k,0)] (EN x_v10 x_v11 g x_v12 j a_orders orders c_orders a_breaks breaks c_breaks a_begins begins c_begins) bp∧Aj ⟨w,h,A9⟩ ab [(k,0)] [⟨C0 b y e d f,some 25⟩] [] w'∧Ac.le h ab∧At ab g j x_v12∧b6≤n∧Ck b6 y orders breaks begins x_v10 x_v11 x_v12=some ac) n ?_ ?_
    ·
     exact XY 0 ⟨(-1),([]:(List Int)),none,0,_,_,rfl,dk.kp,x,Ac.le_refl _,At.nil,Nat.le_refl _,bs⟩
    ·
     rintro ah _ ca ⟨x_v10,x_v11,x_v12,g,j,bp,ab,rfl,dl,am,s,ay,eg,l⟩
     clear bs
     obtain _ | ah:=ah
     ·
      rw [Ck] at l; cases l
     rw [Ck] at l
     replace z:=z.mono s
     replace aa:=aa.mono s
     replace hr_orders:=hr_orders.mono s
     replace hr_breaks:=hr_breaks.mono s
     replace hr_begins:=hr_begins.mono s
     refine XT (XT (Aa (Rk 0 5 ((tB 35 (decide (x_v10<((y.room.length:Nat):Int))))::(EN x_v10 x_v11 g x_v12 j a_orders orders c_orders a_breaks breaks c_breaks a_begins begins c_begins)) dl am fun e7 bk=>?_)))
     refine wf (wC (decide (x_v10<((y.room.length:Nat):Int))) bk (fun be=>?_) (fun be=>?_))
     ·
      rw [be,XW] at l
      refine wp_skip (XT (wp_block (XT (Ax (by kernel_rfl) ?_))))
      replace am:=am.drew
      refine A3 [] [(k,0)] [⟨C0 b y e d f,some 25⟩] ?_
      refine Dr [0,1,2,4,6] [6,4,2,1,0] ((tI 45 x_v10)::(tS 43 a_begins begins.length c_begins)::(tS 41 a_breaks breaks.length c_breaks)::(tS 40 a_orders orders.length c_orders)::(tA 39 (C0 b y e d f))::(EN x_v10 x_v11 g x_v12 j a_orders orders c_orders a_breaks breaks c_breaks a_begins begins c_begins)) bk am fun e8 dm=>?_
      obtain⟨x44,ex44,l⟩:=Ap l
      obtain⟨x47,ex47,l⟩:=Ap l
      obtain⟨x48,ex48,l⟩:=Ap l
      have dr:Aj ⟨w,h,A9⟩ ab [(k,0)] [⟨C0 b y e d f,some 25⟩] [⟨none,0,0,3,1,[],0⟩] (World.drew ca):=am.nilRow 3 1
      have ds:Aj ⟨w,h,A9⟩ ab [(k,0)] [⟨C0 b y e d f,some 25⟩] [⟨none,0,0,3,1,[],0⟩,⟨none,0,0,3,1,[],0⟩] (World.drew ca):=dr.nilRow 3 1
      refine FQ (Vi 66 ⟨w,h,A9⟩ [(k,0)] [⟨C0 b y e d f,some 25⟩] [⟨C0 b y e d f,some 25⟩] [] [⟨7,46,3,1,1,[.int .i64 x_v10]⟩] [5,3,6,4,2,1,0] (fun mm bt rw=>∃ (ae:Option Addr)(ag:Nat)(ad:List Value),mm=((tS 44 ae x44.length ag)::(tI 45 x_v10)::(tS 41 a_breaks breaks.length c_breaks)::(tS 40 a_orders orders.length c_orders)::(tA 39 (C0 b y e d f))::(EN x_v10 x_v11 g x_v12 j a_orders orders c_orders a_breaks breaks c_breaks a_begins begins c_begins))∧rw=[⟨ae,x44.length,ag,3,1,ad,0⟩]∧Ac.le ab bt∧Af bt x44 ad)) ?_ (fun dy=>?_)
      ·
       refine FX (J4 [(8,[true])] ?_ (fun _ _ _ hm=>hm.plOk) (by kernel_rfl) (by kernel_rfl) ⟨?_,trivial⟩)
       ·
        rintro _ _ _ ⟨ae,ag,ad,rfl,rfl,_,_⟩
        exact⟨⟨⟨_,_,_,rfl,rfl,rfl,rfl,rfl,by rfl,by rfl,by rfl,rfl,by kernel_rfl⟩,trivial⟩,by kernel_rfl⟩
       ·
        intro ea ec d5 a1 ei ek d8 cl ce b4 cg av a5
        obtain⟨br,rfl⟩:=SW cl
        obtain⟨aj,rfl⟩:=SW ce
        obtain rfl:br=true:=by cases br <;> first | rfl | exact(Bool.false_ne_true b4).elim
        obtain⟨ae,ag,ad,rfl,rfl,u,cq⟩:=cg
        replace av:=av.req [true] (by kernel_rfl) b4 rfl
        have bg:Af a1 ([x_v10]:List Int) ([.int .i64 x_v10]:List Value):=⟨_,_,rfl,(Ad:rep a1 (x_v10:Int) _),rfl⟩
        replace av:Kn 66 [(k,0)] ([tS 44 ae x44.length ag,tI 45 x_v10,tS 41 a_breaks breaks.length c_breaks,tS 40 a_orders orders.length c_orders,tA 39 (C0 b y e d f),tI 12 x_v10,tI 11 x_v11,tS 10 g x_v12.length j,tP 4 0 0,tS 1 a_orders orders.length c_orders,tS 2 a_breaks breaks.length c_breaks,tS 3 a_begins begins.length c_begins,tS 46 aj 1 1]++En [⟨7,46,3,1,1,[.int .i64 x_v10]⟩] [true] [aj]) d5:=av
        replace a5:Aj ⟨w,h,A9⟩ a1 [(k,0)] [⟨C0 b y e d f,some 25⟩] [⟨ae,x44.length,ag,3,1,ad,0⟩,⟨aj,1,1,3,1,([.int .i64 x_v10]:List Value),0⟩] d8:=a5
        refine⟨_,rfl,rfl,fun K hK=>?_⟩
        obtain⟨bm,dn⟩:=AS ex47
        refine AI 0 8 1 _ (x47.length) _ ([.int .i64 x_v10]:List Value) av a5 rfl rfl (by decide) rfl (by rfl) (by kernel_rfl) (by rfl) (by rfl) (Af.len bg) (a5.rowCell (i:=1) rfl) bg.one (by rw [bm]; simp <;> omega) (by rw [bm]; exact dn) (by decide) fun ai ak cb b7 d6 cr (cu:Kn 66 [(k,0)] ([tS 47 ai x47.length ak,tS 44 ae x44.length ag,tI 45 x_v10,tS 41 a_breaks breaks.length c_breaks,tS 40 a_orders orders.length c_orders,tA 39 (C0 b y e d f),tI 12 x_v10,tI 11 x_v11,tS 10 g x_v12.length j,tP 4 0 0,tS 1 a_orders orders.length c_orders,tS 2 a_breaks breaks.length c_breaks,tS 3 a_begins begins.length c_begins,tS 46 aj 1 1]++En [⟨7,46,3,1,1,[.int .i64 x_v10]⟩] [true] [aj]) b7) bl=>?_
        have bf:Af a1 x47 (ad++([.int .i64 x_v10]:List Value)):=by rw [bm]; exact Af.append cq bg
        obtain rfl:cb=0:=Nat.le_zero.1 cr
        refine hK _ _ bl.plOk ?_
        have cv:Kn 66 [(k,0)] ((tS 47 ai x47.length ak)::(tS 41 a_breaks breaks.length c_breaks)::(tS 40 a_orders orders.length c_orders)::(tA 39 (C0 b y e d f))::(EN x_v10 x_v11 g x_v12 j a_orders orders c_orders a_breaks breaks c_breaks a_begins begins c_begins)) b7:=cu.kp
        refine DV 9 rfl (by kernel_rfl) (Nat.le_of_ble_eq_true rfl) (rfl) fun K hK=>?_
        obtain⟨a9,q,dv,a3⟩:=bl.settle (i:=0) rfl
        replace z:=z.mono (XU u q)
        replace aa:=aa.mono (XU u q)
        replace hr_orders:=hr_orders.mono (XU u q)
        replace hr_breaks:=hr_breaks.mono (XU u q)
        replace bf:=bf.mono q
        replace a3:Aj ⟨w,h,A9⟩ a9 [(k,0)] [⟨C0 b y e d f,some 25⟩] [⟨ai,x47.length,ak,3,1,ad++([.int .i64 x_v10]:List Value),((ad++([.int .i64 x_v10]:List Value)):List Value).length⟩,⟨aj,1,1,3,1,([.int .i64 x_v10]:List Value),0⟩] d6:=a3
        have dt:At a9 ai ak x47:=⟨_,bf,dv,bl.rowCap (i:=0) rfl⟩
        refine wc [.agg (C0 b y e d f),.c (.slice a_orders orders.length c_orders),.c (.slice a_breaks breaks.length c_breaks),.c (.slice ai x47.length ak)] cv a3 (ih ah (by omega) _ _ a3.has y _ ((Ab (Ae z) (Ab (Ae aa) Ad)):rep a9 y _) orders _ _ hr_orders breaks _ _ hr_breaks x47 _ _ dt _ ex48) fun e9 ed fc ch aw p=>?_
        replace ay:=ay.mono (XU (XU u q) aw)
        obtain⟨_,_,rfl,⟨m,o,rfl,b5⟩,rfl⟩:=ch
        refine⟨.tup [.c (.slice m x48.1.length o),.c (.int .i64 x48.2)],rfl,fun dz (cw:Kn 66 [(k,0)] ((48,.tup [.c (.slice m x48.1.length o),.c (.int .i64 x48.2)])::(tS 47 ai x47.length ak)::(tS 41 a_breaks breaks.length c_breaks)::(tS 40 a_orders orders.length c_orders)::(tA 39 (C0 b y e d f))::(EN x_v10 x_v11 g x_v12 j a_orders orders c_orders a_breaks breaks c_breaks a_begins begins c_begins)) dz)=>hK _ _ p.plOk ?_⟩
        refine Dr [10,11,12,13,14] [14,13,12,11,10,9,8,7,5,3,6,4,2,1,0] ((tI 14 x48.2)::(tS 13 m x48.1.length o)::(EN x_v10 x_v11 g x_v12 j a_orders orders c_orders a_breaks breaks c_breaks a_begins begins c_begins)) cw p fun em cy=>?_
        refine AE (by kernel_rfl) (XT (Aa (Rk 0 3 ((tB 53 (decide (x48.2≥0)))::(tI 14 x48.2)::(tS 13 m x48.1.length o)::(EN x_v10 x_v11 g x_v12 j a_orders orders c_orders a_breaks breaks c_breaks a_begins begins c_begins)) cy p fun b8 bu=>?_)))
        rcases Bool.eq_false_or_eq_true (decide (x48.2≥0)) with aq | aq
        ·
         rw [aq,XW] at l
         have cz:Kn 66 [(k,0)] ((tB 53 true)::(tI 14 x48.2)::(tS 13 m x48.1.length o)::(EN x_v10 x_v11 g x_v12 j a_orders orders c_orders a_breaks breaks c_breaks a_begins begins c_begins)) b8:=(bu.setB 53 true (by rfl) aq).kp
         refine Rk 3 3 ((tB 56 (decide (x_v11<0)))::(tB 53 true)::(tI 14 x48.2)::(tS 13 m x48.1.length o)::(EN x_v10 x_v11 g x_v12 j a_orders orders c_orders a_breaks breaks c_breaks a_begins begins c_begins)) cz p fun b9 bv=>?_
         rcases Bool.eq_false_or_eq_true (decide (x_v11<0)) with ar | ar
         ·
          rw [ar,XW] at l
          have c0:Kn 66 [(k,0)] ((tB 56 true)::(tB 53 true)::(tI 14 x48.2)::(tS 13 m x48.1.length o)::(EN x_v10 x_v11 g x_v12 j a_orders orders c_orders a_breaks breaks c_breaks a_begins begins c_begins)) b9:=(bv.setB 56 true (by rfl) ar).kp
          refine Rk 6 5 ((tB 61 true)::(tI 14 x48.2)::(tS 13 m x48.1.length o)::(EN x_v10 x_v11 g x_v12 j a_orders orders c_orders a_breaks breaks c_breaks a_begins begins c_begins)) c0 p fun en bw=>?_
          refine wf (wC true bw (fun hb=>?_) (fun hb=>?_))
          rotate_left
          ·
           cases hb
          refine Aa (Rk 0 4 ((tI 11 x48.2)::(tS 10 m x48.1.length o)::(tI 12 x_v10)::(G5 a_orders orders c_orders a_breaks breaks c_breaks a_begins begins c_begins)) bw p fun ep c1=>?_)
          refine wf (Aa (Rk 0 3 ((tI 12 (IntKind.i64.wrap (x_v10+1)))::(tI 11 x48.2)::(tS 10 m x48.1.length o)::(G5 a_orders orders c_orders a_breaks breaks c_breaks a_begins begins c_begins)) c1 p fun er c2=>?_))
          refine wf ?_
          exact XY ah ⟨Nat.lt_succ_self _,XY (IntKind.i64.wrap (x_v10+1)) ⟨x48.2,x48.1,m,o,_,_,rfl,c2.kp,p.cutRw 0,XU s (XU u (XU q aw)),b5,(by omega),l⟩⟩
         ·
          rw [ar,XV] at l
          have c3:Kn 66 [(k,0)] ((tB 56 false)::(tB 53 true)::(tI 14 x48.2)::(tS 13 m x48.1.length o)::(EN x_v10 x_v11 g x_v12 j a_orders orders c_orders a_breaks breaks c_breaks a_begins begins c_begins)) b9:=(bv.setB 56 false (by rfl) ar).kp
          refine Rk 6 5 ((tB 61 (decide (x48.2<x_v11)))::(tI 14 x48.2)::(tS 13 m x48.1.length o)::(EN x_v10 x_v11 g x_v12 j a_orders orders c_orders a_breaks breaks c_breaks a_begins begins c_begins)) c3 p fun es bh=>?_
          refine wf (wC (decide (x48.2<x_v11)) bh (fun bb=>?_) (fun bb=>?_))
          ·
           rw [bb,XW] at l
           refine Aa (Rk 0 4 ((tI 11 x48.2)::(tS 10 m x48.1.length o)::(tI 12 x_v10)::(G5 a_orders orders c_orders a_breaks breaks c_breaks a_begins begins c_begins)) bh p fun et c4=>?_)
           refine wf (Aa (Rk 0 3 ((tI 12 (IntKind.i64.wrap (x_v10+1)))::(tI 11 x48.2)::(tS 10 m x48.1.length o)::(G5 a_orders orders c_orders a_breaks breaks c_breaks a_begins begins c_begins)) c4 p fun eu c5=>?_))
           refine wf ?_
           exact XY ah ⟨Nat.lt_succ_self _,XY (IntKind.i64.wrap (x_v10+1)) ⟨x48.2,x48.1,m,o,_,_,rfl,c5.kp,p.cutRw 0,XU s (XU u (XU q aw)),b5,(by omega),l⟩⟩
          ·
           rw [bb,XV] at l
           refine wp_skip (Aa (Rk 0 3 ((tI 12 (IntKind.i64.wrap (x_v10+1)))::(tI 11 x_v11)::(tS 10 g x_v12.length j)::(G5 a_orders orders c_orders a_breaks breaks c_breaks a_begins begins c_begins)) bh p fun ev c6=>?_))
           refine wf ?_
           exact XY ah ⟨Nat.lt_succ_self _,XY (IntKind.i64.wrap (x_v10+1)) ⟨x_v11,x_v12,g,j,_,_,rfl,c6.kp,p.cutRw 0,XU s (XU u (XU q aw)),ay,(by omega),l⟩⟩
        ·
         rw [aq,XV] at l
         have c7:Kn 66 [(k,0)] ((tB 53 false)::(tI 14 x48.2)::(tS 13 m x48.1.length o)::(EN x_v10 x_v11 g x_v12 j a_orders orders c_orders a_breaks breaks c_breaks a_begins begins c_begins)) b8:=(bu.setB 53 false (by rfl) aq).kp
         refine Rk 3 8 ((tB 61 false)::(tI 14 x48.2)::(tS 13 m x48.1.length o)::(EN x_v10 x_v11 g x_v12 j a_orders orders c_orders a_breaks breaks c_breaks a_begins begins c_begins)) c7 p fun ew bx=>?_
         refine wf (wC false bx (fun hb=>?_) (fun hb=>?_))
         ·
          cases hb
         refine wp_skip (Aa (Rk 0 3 ((tI 12 (IntKind.i64.wrap (x_v10+1)))::(tI 11 x_v11)::(tS 10 g x_v12.length j)::(G5 a_orders orders c_orders a_breaks breaks c_breaks a_begins begins c_begins)) bx p fun ex c8=>?_))
         refine wf ?_
         exact XY ah ⟨Nat.lt_succ_self _,XY (IntKind.i64.wrap (x_v10+1)) ⟨x_v11,x_v12,g,j,_,_,rfl,c8.kp,p.cutRw 0,XU s (XU u (XU q aw)),ay,(by omega),l⟩⟩
      refine FQ (Vi 66 ⟨w,h,A9⟩ [(k,0)] [⟨C0 b y e d f,some 25⟩] [⟨C0 b y e d f,some 25⟩] [] [⟨3,42,3,1,0,[]⟩,⟨7,46,3,1,1,[.int .i64 x_v10]⟩] [6,4,2,1,0] (fun mm cm rw=>mm=((tI 45 x_v10)::(tS 43 a_begins begins.length c_begins)::(tS 41 a_breaks breaks.length c_breaks)::(tS 40 a_orders orders.length c_orders)::(tA 39 (C0 b y e d f))::(EN x_v10 x_v11 g x_v12 j a_orders orders c_orders a_breaks breaks c_breaks a_begins begins c_begins))∧rw=[]∧Ac.le ab cm)) ?_ (fun dx=>?_)
      ·
       refine FX (J4 [(5,[true,false])] ?_ (fun _ _ _ hm=>hm.plOk) (by kernel_rfl) (by kernel_rfl) ⟨?_,trivial⟩)
       ·
        rintro _ _ _ ⟨rfl,rfl,_⟩
        exact⟨⟨⟨_,_,_,rfl,rfl,rfl,rfl,rfl,by rfl,by rfl,by rfl,rfl,by kernel_rfl⟩,⟨⟨_,_,_,rfl,rfl,rfl,rfl,rfl,by rfl,by rfl,by rfl,rfl,by kernel_rfl⟩,trivial⟩⟩,by kernel_rfl⟩
       ·
        intro d9 eb d0 ba eh ej d7 ck cd b3 cf au a4
        obtain⟨bq,af,rfl⟩:=SX ck
        obtain⟨ao,az,rfl⟩:=SX cd
        obtain rfl:bq=true:=by cases bq <;> first | rfl | exact(Bool.false_ne_true b3).elim
        obtain⟨rfl,rfl,bz⟩:=cf
        replace hr_begins:=hr_begins.mono bz
        replace au:=au.req [true,false] (by kernel_rfl) b3 rfl
        have co:Af ba ([]:List Int) ([]:List Value):=Af.nil
        replace au:Kn 66 [(k,0)] ([tI 45 x_v10,tS 43 a_begins begins.length c_begins,tS 41 a_breaks breaks.length c_breaks,tS 40 a_orders orders.length c_orders,tA 39 (C0 b y e d f),tI 12 x_v10,tI 11 x_v11,tS 10 g x_v12.length j,tP 4 0 0,tS 1 a_orders orders.length c_orders,tS 2 a_breaks breaks.length c_breaks,tS 3 a_begins begins.length c_begins,tS 42 ao 0 0]++En [⟨3,42,3,1,0,[]⟩,⟨7,46,3,1,1,[.int .i64 x_v10]⟩] [true,af] [ao,az]) d0:=au
        replace a4:Aj ⟨w,h,A9⟩ ba [(k,0)] [⟨C0 b y e d f,some 25⟩] [⟨ao,0,0,3,1,([]:List Value),0⟩,Vh [(k,0)] ⟨7,46,3,1,1,[.int .i64 x_v10]⟩ af az] d7:=a4
        refine⟨_,rfl,rfl,fun K hK=>?_⟩
        obtain⟨a6,a2,dw,_⟩:=id hr_begins
        obtain⟨bn,dp⟩:=AS ex44
        refine AI 0 8 begins.length _ (x44.length) _ a6 au a4 rfl rfl (by decide) rfl (by rfl) (by kernel_rfl) (by rfl) (by rfl) (Af.len a2) (dw.cell a4.has a2.one) a2.one (by rw [bn]; simp <;> omega) (by rw [bn]; exact dp) (by decide) fun a7 a8 cc d1 fd cs (da:Kn 66 [(k,0)] ([tS 44 a7 x44.length a8,tI 45 x_v10,tS 43 a_begins begins.length c_begins,tS 41 a_breaks breaks.length c_breaks,tS 40 a_orders orders.length c_orders,tA 39 (C0 b y e d f),tI 12 x_v10,tI 11 x_v11,tS 10 g x_v12.length j,tP 4 0 0,tS 1 a_orders orders.length c_orders,tS 2 a_breaks breaks.length c_breaks,tS 3 a_begins begins.length c_begins,tS 42 ao 0 0]++En [⟨3,42,3,1,0,[]⟩,⟨7,46,3,1,1,[.int .i64 x_v10]⟩] [true,af] [ao,az]) d1) b0=>?_
        have cp:Af ba x44 (([]:List Value)++a6):=by rw [bn]; exact Af.append co a2
        obtain rfl:cc=0:=Nat.le_zero.1 cs
        refine hK _ _ b0.plOk ?_
        refine GQ (Tg [⟨7,46,3,1,1,[.int .i64 x_v10]⟩] [af]++[5,3,6,4,2,1,0]) (by cases af <;> kernel_rfl) (by cases af <;> rfl) (dy [af] _ _ ⟨[az],_,_,_,[⟨a7,x44.length,a8,3,1,([]:List Value)++a6,0⟩],rfl,rfl,rfl,⟨a7,a8,([]:List Value)++a6,rfl,rfl,bz,cp⟩,da.next [false,true] _ (by kernel_rfl) (by rfl) (by kernel_rfl),b0.pickRows [0,1] (by kernel_rfl) (by kernel_rfl)⟩)
      exact dx [false,false] _ _ ⟨[none,none],_,_,((tI 45 x_v10)::(tS 43 a_begins begins.length c_begins)::(tS 41 a_breaks breaks.length c_breaks)::(tS 40 a_orders orders.length c_orders)::(tA 39 (C0 b y e d f))::(EN x_v10 x_v11 g x_v12 j a_orders orders c_orders a_breaks breaks c_breaks a_begins begins c_begins)),[],rfl,rfl,rfl,⟨rfl,rfl,Ac.le_refl _⟩,dm.kp,ds⟩
     ·
      rw [be,XV] at l
      refine wp_exit ?_
      obtain rfl:=XZ l
      exact XY g ⟨j,_,_,rfl,bk.kp,am,s,ay⟩
   ·
    rintro _ fe ⟨an,ap,bo,a0,rfl,db,b1,ef,du⟩
    refine XT (Aa (Rk 0 4 [tI 9 ac.1,tS 8 an ac.2.length ap] db b1 fun ez dc=>?_))
    refine wf (wp_ret ?_)
    obtain rfl:=XZ H
    exact rt (.tup [.c (.slice an ac.2.length ap),.c (.int .i64 ac.1)]) dc b1 ⟨_,_,rfl,⟨_,_,rfl,du⟩,rfl⟩
theorem Rv (n:Nat) {h:Ac} {w:World} (hh:Db h w) (y:Ag) {cs_y:List Value} (hx_y:rep h y cs_y) (orders:List (List Int)) {a_orders:Option Addr} {c_orders:Nat} (hr_orders:At h a_orders c_orders orders) (breaks:List (List Int)) {a_breaks:Option Addr} {c_breaks:Nat} (hr_breaks:At h a_breaks c_breaks breaks) (begins:List Int) {a_begins:Option Addr} {c_begins:Nat} (hr_begins:At h a_begins c_begins begins) {r:(List Int)×Int} (H:ref_Best n y orders breaks begins=some r) :
  Calls Tryz.prog 20 #[.agg cs_y.toArray,.slice a_orders orders.length c_orders,.slice a_breaks breaks.length c_breaks,.slice a_begins begins.length c_begins] w (Dd (fun h v=>∃ v0 v1,v=.tuple #[v0,v1]∧(∃ a c,v0=.slice a r.1.length c∧At h a c r.1)∧(v1=.int .i64 r.2)) h w):=PT n h w hh y cs_y hx_y orders a_orders c_orders hr_orders breaks a_breaks c_breaks hr_breaks begins a_begins c_begins hr_begins r H
abbrev DH (b:Option Addr) (y:Ag) (e:Nat) (d:Option Addr) (f:Nat):List SC:=[.slice b y.room.length e,.slice d y.buses.length f,.int .i64 y.broken]
abbrev Tf (u:Option Addr) (x21:Ag) (z:Nat) (x:Option Addr) (aa:Nat):List SC:=[.slice u x21.room.length z,.slice x x21.buses.length aa,.int .i64 x21.broken]
abbrev Ff (x24:(List Int)×(List Int)×Int×Int) (i:Option Addr) (k:Nat) (g:Option Addr) (j:Nat) (a_lanes:Option Addr) (lanes:List Int) (c_lanes:Nat):TM:=[tI 7 x24.2.2.1,tS 6 i x24.2.1.length k,tS 5 g x24.1.length j,tP 2 0 0,tS 1 a_lanes lanes.length c_lanes]
abbrev Iq (a_lanes:Option Addr) (lanes:List Int) (c_lanes:Nat):TM:=[tP 2 0 0,tS 1 a_lanes lanes.length c_lanes]
abbrev U5 (b:Option Addr) (y:Ag) (e:Nat) (d:Option Addr) (f:Nat) (a_lanes:Option Addr) (lanes:List Int) (c_lanes:Nat) (x24:(List Int)×(List Int)×Int×Int):TM:=[tA 87 (DH b y e d f),tA 85 (DH b y e d f),tS 84 a_lanes lanes.length c_lanes,tA 83 (DH b y e d f),tI 82 x24.2.2.1,tB 81 true]
set_option maxRecDepth 100000 in
set_option maxHeartbeats 4000000 in
theorem Lv (n:Nat) {h:Ac} {w:World} (hh:Db h w) (y:Ag) {cs_y:List Value} (hx_y:rep h y cs_y) (lanes:List Int) {a_lanes:Option Addr} {c_lanes:Nat} (hr_lanes:At h a_lanes c_lanes lanes) {r:Bool} (H:E5 n y lanes=some r) :
  Calls Tryz.prog 3 #[.agg cs_y.toArray,.slice a_lanes lanes.length c_lanes] w (Dd (fun h v=>v=.bool r) h w):=by
 obtain⟨_,_,rfl,⟨b,e,rfl,l⟩,⟨_,_,rfl,⟨d,f,rfl,m⟩,rfl⟩⟩:=hx_y
 refine enter 95 [.agg (DH b y e d f),.c (.slice a_lanes lanes.length c_lanes)] Tryz.func3 rfl rfl rfl rfl fun t hk=>?_
 have hm:=Aj.begin h w hh
 unfold E5 at H
 refine XT (Aa (wl fun K hK=>?_))
 refine wb (.agg (DH b y e d f)) hk hm fun a f3 ic (dy:Kn 95 [(a,0)] [tP 2 0 0,tA 0 (DH b y e d f),tS 1 a_lanes lanes.length c_lanes] f3) be=>hK _ _ ?_
 refine Rk 1 1 (Iq a_lanes lanes c_lanes) dy be fun gj d6=>?_
 refine wf (XT (XT ?_))
 obtain⟨b1,ag,H⟩:=Ap H
 refine Aq (fun a' w'=>∃ (b5:Array Value)(bc:Ac),a' = ⟨b5,[]⟩∧Kn 95 [(a,0)] [tP 2 0 0,tS 1 a_lanes lanes.length c_lanes,tB 17 b1] b5∧Aj ⟨w,h,A9⟩ bc [(a,0)] [⟨DH b y e d f,some 25⟩] [] w'∧Ac.le h bc) ?_ ?_
 ·
  refine Aa (Rk 0 1 ((tA 10 (DH b y e d f))::(Iq a_lanes lanes c_lanes)) d6 be fun go ei=>?_)
  obtain⟨x11,ex11,ag⟩:=Ap ag
  refine wl fun K hK=>?_
  refine wc [.agg (DH b y e d f)] ei be (Oj n be.has y ((Ab (Ae l) (Ab (Ae m) Ad)):rep h y _) ex11) fun hd f7 h1 df cs a4=>?_
  obtain rfl:=df
  refine⟨.one (.c (.bool x11)),rfl,fun fw (et:Kn 95 [(a,0)] ((tB 11 x11)::(tA 10 (DH b y e d f))::(Iq a_lanes lanes c_lanes)) fw)=>hK _ _ ?_⟩
  refine Rk 2 2 ((tB 13 (!x11))::(Iq a_lanes lanes c_lanes)) et a4 fun c9 cr=>?_
  rcases Bool.eq_false_or_eq_true ((!x11)) with ax | ax
  ·
   rw [ax,XW] at ag
   have e7:Kn 95 [(a,0)] ((tB 13 true)::(Iq a_lanes lanes c_lanes)) c9:=(cr.setB 13 true (by rfl) ax).kp
   refine Rk 4 4 ((tB 17 true)::(Iq a_lanes lanes c_lanes)) e7 a4 fun g4 e8=>?_
   refine wf ?_
   obtain rfl:=XZ ag
   exact XY _ ⟨_,rfl,e8.kp,a4,cs⟩
  ·
   rw [ax,XV] at ag
   have e9:Kn 95 [(a,0)] ((tB 13 false)::(Iq a_lanes lanes c_lanes)) c9:=(cr.setB 13 false (by rfl) ax).kp
   refine Rk 4 4 ((tB 17 (decide (((lanes.length:Nat):Int)>15)))::(Iq a_lanes lanes c_lanes)) e9 a4 fun g5 fa=>?_
   refine wf ?_
   obtain rfl:=XZ ag
   exact XY _ ⟨_,rfl,fa.kp,a4,cs⟩
 ·
  rintro _ h7 ⟨b5,bc,rfl,bm,a5,bp⟩
  replace l:=l.mono bp
  replace m:=m.mono bp
  replace hr_lanes:=hr_lanes.mono bp
  refine wC (b1) bm (fun bj=>?_) (fun bj=>?_)
  ·
   rw [Bc bj] at H
   refine XT (Aa ?_)
   obtain⟨x18,ex18,H⟩:=Ap H
   refine wl fun K hK=>?_
   refine wc [] bm a5 (DR n a5.has  ex18) fun ho ga h8 dl gf cw=>?_
   obtain rfl:=dl
   refine⟨.one (.c (.bool x18)),rfl,fun f0 (fb:Kn 95 [(a,0)] [tB 18 x18,tP 2 0 0,tS 1 a_lanes lanes.length c_lanes,tB 17 b1] f0)=>hK _ _ ?_⟩
   refine Rk 1 1 [tB 4 x18] fb cw fun g6 fc=>?_
   refine wf (wp_ret ?_)
   obtain rfl:=XZ H
   exact rt (.one (.c (.bool x18))) fc cw rfl
  ·
   rw [Bd bj] at H
   refine wp_skip (XT (Aa (Rk 0 1 ((tA 20 (DH b y e d f))::(Iq a_lanes lanes c_lanes)) bm a5 fun g7 fd=>?_)))
   obtain⟨x21,ex21,H⟩:=Ap H
   refine wl fun K hK=>?_
   refine wc [.agg (DH b y e d f)] fd a5 (M5 n a5.has y ((Ab (Ae l) (Ab (Ae m) Ad)):rep bc y _) ex21) fun hp gb h9 dm bq bw=>?_
   replace hr_lanes:=hr_lanes.mono bq
   obtain⟨_,rfl,⟨_,_,rfl,⟨u,z,rfl,bz⟩,⟨_,_,rfl,⟨x,aa,rfl,b0⟩,rfl⟩⟩⟩:=dm
   refine⟨.one (.agg (Tf u x21 z x aa)),rfl,fun f1 (fe:Kn 95 [(a,0)] ((tA 21 (Tf u x21 z x aa))::(tA 20 (DH b y e d f))::(Iq a_lanes lanes c_lanes)) f1)=>hK _ _ ?_⟩
   refine Rk 2 1 ((tS 22 a_lanes lanes.length c_lanes)::(tA 21 (Tf u x21 z x aa))::(Iq a_lanes lanes c_lanes)) fe bw fun g8 ff=>?_
   obtain⟨x23,ex23,H⟩:=Ap H
   refine wl fun K hK=>?_
   refine wc [.c (.slice a_lanes lanes.length c_lanes)] ff bw (Jm n bw.has lanes hr_lanes ex23) fun hq dw ia dp a3 cx=>?_
   replace bz:=bz.mono a3
   replace b0:=b0.mono a3
   obtain⟨a7,a9,rfl,fo⟩:=dp
   refine⟨.one (.c (.slice a7 x23.length a9)),rfl,fun f2 (fg:Kn 95 [(a,0)] ((tS 23 a7 x23.length a9)::(tS 22 a_lanes lanes.length c_lanes)::(tA 21 (Tf u x21 z x aa))::(Iq a_lanes lanes c_lanes)) f2)=>hK _ _ ?_⟩
   obtain⟨x24,ex24,H⟩:=Ap H
   refine wl fun K hK=>?_
   refine wc [.agg (Tf u x21 z x aa),.c (.slice a7 x23.length a9)] fg cx (JP n cx.has x21 ((Ab (Ae bz) (Ab (Ae b0) Ad)):rep dw x21 _) x23 fo ex24) fun hr dx ib dq br bf=>?_
   replace l:=l.mono (XU (XU bq a3) br)
   replace m:=m.mono (XU (XU bq a3) br)
   obtain⟨_,_,_,_,rfl,⟨g,j,rfl,q⟩,⟨i,k,rfl,s⟩,rfl,rfl⟩:=dq
   refine⟨.tup [.c (.slice g x24.1.length j),.c (.slice i x24.2.1.length k),.c (.int .i64 x24.2.2.1),.c (.int .i64 x24.2.2.2)],rfl,fun f4 (fh:Kn 95 [(a,0)] ((24,.tup [.c (.slice g x24.1.length j),.c (.slice i x24.2.1.length k),.c (.int .i64 x24.2.2.1),.c (.int .i64 x24.2.2.2)])::(tS 23 a7 x23.length a9)::(tS 22 a_lanes lanes.length c_lanes)::(tA 21 (Tf u x21 z x aa))::(Iq a_lanes lanes c_lanes)) f4)=>hK _ _ ?_⟩
   refine Rk 5 9 ((tI 8 x24.2.2.2)::(Ff x24 i k g j a_lanes lanes c_lanes)) fh bf fun g9 fi=>?_
   refine wf (XT (Aa (Rk 0 1 ((tA 29 (DH b y e d f))::(tI 8 x24.2.2.2)::(Ff x24 i k g j a_lanes lanes c_lanes)) fi bf fun ha fj=>?_)))
   obtain⟨x30,ex30,H⟩:=Ap H
   refine wl fun K hK=>?_
   refine wc [.agg (DH b y e d f)] fj bf (Lt n bf.has y ((Ab (Ae l) (Ab (Ae m) Ad)):rep dx y _) ex30) fun hs b8 ht da ay ab=>?_
   replace l:=l.mono ay
   replace m:=m.mono ay
   replace hr_lanes:=hr_lanes.mono (XU (XU a3 br) ay)
   replace q:=q.mono ay
   replace s:=s.mono ay
   obtain rfl:=da
   refine⟨.one (.c (.int .i64 x30)),rfl,fun fp (dz:Kn 95 [(a,0)] ((tI 30 x30)::(tA 29 (DH b y e d f))::(tI 8 x24.2.2.2)::(Ff x24 i k g j a_lanes lanes c_lanes)) fp)=>hK _ _ ?_⟩
   refine Rk 2 1 ((tI 9 x30)::(tI 8 x24.2.2.2)::(Ff x24 i k g j a_lanes lanes c_lanes)) dz ab fun gh d0=>?_
   refine wf (XT (XT ?_))
   obtain⟨cy,af,H⟩:=Ap H
   refine Aq (fun a' w'=>∃ (b2:Array Value)(bb:Ac),a' = ⟨b2,[]⟩∧Kn 95 [(a,0)] [tI 9 x30,tI 8 x24.2.2.2,tI 7 x24.2.2.1,tS 6 i x24.2.1.length k,tS 5 g x24.1.length j,tP 2 0 0,tS 1 a_lanes lanes.length c_lanes,tB 38 cy] b2∧Aj ⟨w,h,A9⟩ bb [(a,0)] [⟨DH b y e d f,some 25⟩] [] w'∧Ac.le b8 bb) ?_ ?_
   ·
    refine Aa (Rk 0 3 ((tB 33 (x30 == 0))::(tI 9 x30)::(tI 8 x24.2.2.2)::(Ff x24 i k g j a_lanes lanes c_lanes)) d0 ab fun c0 b9=>?_)
    rcases Bool.eq_false_or_eq_true ((x30 == 0)) with am | am
    ·
     rw [am,XW] at af
     have d1:Kn 95 [(a,0)] ((tB 33 true)::(tI 9 x30)::(tI 8 x24.2.2.2)::(Ff x24 i k g j a_lanes lanes c_lanes)) c0:=(b9.setB 33 true (by rfl) am).kp
     refine Rk 3 2 ((tS 35 a_lanes lanes.length c_lanes)::(tA 34 (DH b y e d f))::(tB 33 true)::(tI 9 x30)::(tI 8 x24.2.2.2)::(Ff x24 i k g j a_lanes lanes c_lanes)) d1 ab fun gi ca=>?_
     obtain⟨x36,ex36,af⟩:=Ap af
     refine AF _ rfl (Al ca (by kernel_rfl)) fun K hK=>?_
     refine wc [.agg (DH b y e d f),.c (.slice a_lanes lanes.length c_lanes)] ca ab (Jn n ab.has y ((Ab (Ae l) (Ab (Ae m) Ad)):rep b8 y _) lanes hr_lanes ex36) fun hb f5 hu db fk cu=>?_
     obtain rfl:=db
     refine⟨.one (.c (.bool x36)),rfl,fun fq (d2:Kn 95 [(a,0)] ((tB 36 x36)::(tS 35 a_lanes lanes.length c_lanes)::(tA 34 (DH b y e d f))::(tB 33 true)::(tI 9 x30)::(tI 8 x24.2.2.2)::(Ff x24 i k g j a_lanes lanes c_lanes)) fq)=>hK _ _ ?_⟩
     refine Rk 6 2 ((tB 38 (!x36))::(tI 9 x30)::(tI 8 x24.2.2.2)::(Ff x24 i k g j a_lanes lanes c_lanes)) d2 cu fun gk d3=>?_
     refine wf ?_
     obtain rfl:=XZ af
     exact XY _ ⟨_,rfl,d3.kp,cu,fk⟩
    ·
     rw [am,XV] at af
     have d4:Kn 95 [(a,0)] ((tB 33 false)::(tI 9 x30)::(tI 8 x24.2.2.2)::(Ff x24 i k g j a_lanes lanes c_lanes)) c0:=(b9.setB 33 false (by rfl) am).kp
     refine Rk 3 5 ((tB 38 false)::(tI 9 x30)::(tI 8 x24.2.2.2)::(Ff x24 i k g j a_lanes lanes c_lanes)) d4 ab fun gl d5=>?_
     refine wf ?_
     obtain rfl:=XZ af
     exact XY _ ⟨_,rfl,d5.kp,ab,Ac.le_refl _⟩
   ·
    rintro _ hv ⟨b2,bb,rfl,bk,bs,az⟩
    replace l:=l.mono az
    replace m:=m.mono az
    replace hr_lanes:=hr_lanes.mono az
    replace q:=q.mono az
    replace s:=s.mono az
    obtain⟨ai,ba,H⟩:=Ap H
    refine Aq (fun a' w'=>∃ (b3:Array Value)(al:Ac),a' = ⟨b3,[]⟩∧Kn 95 [(a,0)] ((tI 9 ai)::(tI 8 x24.2.2.2)::(Ff x24 i k g j a_lanes lanes c_lanes)) b3∧Aj ⟨w,h,A9⟩ al [(a,0)] [⟨DH b y e d f,some 25⟩] [] w'∧Ac.le bb al) ?_ ?_
    ·
     refine wC (cy) bk (fun bh=>?_) (fun bh=>?_)
     ·
      rw [Bc bh] at ba
      refine Aa (Rk 0 1 ((tI 9 2)::(tI 8 x24.2.2.2)::(Ff x24 i k g j a_lanes lanes c_lanes)) bk bs fun gm d7=>?_)
      refine wf ?_
      obtain rfl:=XZ ba
      exact XY _ ⟨_,rfl,d7.kp,bs,Ac.le_refl _⟩
     ·
      rw [Bd bh] at ba
      refine wp_skip ?_
      obtain rfl:=XZ ba
      exact XY _ ⟨_,rfl,bk.kp,bs,Ac.le_refl _⟩
    ·
     rintro _ hw ⟨b3,al,rfl,d8,o,a0⟩
     replace l:=l.mono a0
     replace m:=m.mono a0
     replace hr_lanes:=hr_lanes.mono a0
     replace q:=q.mono a0
     replace s:=s.mono a0
     refine XT (XT (Aa (Rk 0 2 ((tB 40 (ai != 0))::(tI 9 ai)::(tI 8 x24.2.2.2)::(Ff x24 i k g j a_lanes lanes c_lanes)) d8 o fun gn bl=>?_)))
     refine wf (wC ((ai != 0)) bl (fun bi=>?_) (fun bi=>?_))
     ·
      rw [bi,XW] at H
      refine XT ?_
      obtain⟨cz,p,H⟩:=Ap H
      refine Aq (fun a' w'=>∃ (b4:Array Value)(bg:Ac),a' = ⟨b4,[]⟩∧Kn 95 [(a,0)] [tB 4 cz] b4∧Aj ⟨w,h,A9⟩ bg [(a,0)] [⟨DH b y e d f,some 25⟩] [] w'∧Ac.le al bg) ?_ ?_
      ·
       refine Aa (Rk 0 4 [tB 44 (x24.2.2.2 == ai),tI 7 x24.2.2.1,tS 6 i x24.2.1.length k,tS 5 g x24.1.length j] bl o fun c1 cb=>?_)
       rcases Bool.eq_false_or_eq_true ((x24.2.2.2 == ai)) with an | an
       ·
        rw [an,XW] at p
        have d9:Kn 95 [(a,0)] [tB 44 true,tI 7 x24.2.2.1,tS 6 i x24.2.1.length k,tS 5 g x24.1.length j] c1:=(cb.setB 44 true (by rfl) an).kp
        refine Rk 4 8 [tB 52 ((IntKind.i64.wrap (((x24.1.length:Nat):Int)+((x24.2.1.length:Nat):Int))) == 0),tI 7 x24.2.2.1] d9 o fun c2 cc=>?_
        rcases Bool.eq_false_or_eq_true (((IntKind.i64.wrap (((x24.1.length:Nat):Int)+((x24.2.1.length:Nat):Int))) == 0)) with ao | ao
        ·
         rw [ao,XW] at p
         have ea:Kn 95 [(a,0)] [tB 52 true,tI 7 x24.2.2.1] c2:=(cc.setB 52 true (by rfl) ao).kp
         refine Rk 12 4 [tB 56 (x24.2.2.1 == 0)] ea o fun c3 cd=>?_
         rcases Bool.eq_false_or_eq_true ((x24.2.2.1 == 0)) with ap | ap
         ·
          rw [ap,XW] at p
          have ce:Kn 95 [(a,0)] [tB 56 true] c3:=(cd.setB 56 true (by rfl) ap).kp
          obtain⟨x57,ex57,p⟩:=Ap p
          refine AF _ rfl (Al ce (by kernel_rfl)) fun K hK=>?_
          refine wc [] ce o (DR n o.has  ex57) fun hc f6 hx dc fl cv=>?_
          obtain rfl:=dc
          refine⟨.one (.c (.bool x57)),rfl,fun fr (eb:Kn 95 [(a,0)] [tB 57 x57,tB 56 true] fr)=>hK _ _ ?_⟩
          refine Rk 17 2 [tB 4 x57] eb cv fun gp ec=>?_
          refine wf ?_
          obtain rfl:=XZ p
          exact XY _ ⟨_,rfl,ec.kp,cv,fl⟩
         ·
          rw [ap,XV] at p
          have ed:Kn 95 [(a,0)] [tB 56 false] c3:=(cd.setB 56 false (by rfl) ap).kp
          refine Rk 16 3 [tB 4 false] ed o fun gq ee=>?_
          refine wf ?_
          obtain rfl:=XZ p
          exact XY _ ⟨_,rfl,ee.kp,o,Ac.le_refl _⟩
        ·
         rw [ao,XV] at p
         have ef:Kn 95 [(a,0)] [tB 52 false,tI 7 x24.2.2.1] c2:=(cc.setB 52 false (by rfl) ao).kp
         refine Rk 12 7 [tB 4 false] ef o fun gr eg=>?_
         refine wf ?_
         obtain rfl:=XZ p
         exact XY _ ⟨_,rfl,eg.kp,o,Ac.le_refl _⟩
       ·
        rw [an,XV] at p
        have eh:Kn 95 [(a,0)] [tB 44 false,tI 7 x24.2.2.1,tS 6 i x24.2.1.length k,tS 5 g x24.1.length j] c1:=(cb.setB 44 false (by rfl) an).kp
        refine Rk 4 15 [tB 4 false] eh o fun gs ej=>?_
        refine wf ?_
        obtain rfl:=XZ p
        exact XY _ ⟨_,rfl,ej.kp,o,Ac.le_refl _⟩
      ·
       rintro _ hy ⟨b4,bg,rfl,ek,fm,gc⟩
       refine wp_ret ?_
       obtain rfl:=XZ H
       exact rt (.one (.c (.bool cz))) ek fm rfl
     ·
      rw [bi,XV] at H
      refine wp_skip (XT (Ax (by kernel_rfl) ?_))
      replace o:=o.drew
      refine A3 [] [(a,0)] [⟨DH b y e d f,some 25⟩] ?_
      refine Dr [0,1,2] [2,1,0] ((tB 61 (x24.2.2.2 == 0))::(Ff x24 i k g j a_lanes lanes c_lanes)) bl o fun c4 cf=>?_
      rcases Bool.eq_false_or_eq_true ((x24.2.2.2 == 0)) with aq | aq
      ·
       rw [aq,XW] at H
       have el:Kn 95 [(a,0)] ((tB 61 true)::(Ff x24 i k g j a_lanes lanes c_lanes)) c4:=(cf.setB 61 true (by rfl) aq).kp
       refine Dr [3,4] (dn 4) ((tS 63 g x24.1.length j)::(tA 62 (DH b y e d f))::(tB 61 true)::(Ff x24 i k g j a_lanes lanes c_lanes)) el o fun gu cg=>?_
       obtain⟨x64,ex64,H⟩:=Ap H
       refine DV 5 rfl (by kernel_rfl) (by decide) (Al cg (by kernel_rfl)) fun K hK=>?_
       refine wc [.agg (DH b y e d f),.c (.slice g x24.1.length j)] cg o (Ie n o.has y ((Ab (Ae l) (Ab (Ae m) Ad)):rep al y _) x24.1 q ex64) fun he dr hz dd a1 ac=>?_
       replace l:=l.mono a1
       replace m:=m.mono a1
       replace hr_lanes:=hr_lanes.mono a1
       replace q:=q.mono a1
       replace s:=s.mono a1
       obtain rfl:=dd
       refine⟨.one (.c (.bool x64)),rfl,fun fs (em:Kn 95 [(a,0)] ((tB 64 x64)::(tS 63 g x24.1.length j)::(tA 62 (DH b y e d f))::(tB 61 true)::(Ff x24 i k g j a_lanes lanes c_lanes)) fs)=>hK _ _ ac.plOk ?_⟩
       refine Dr [6,7] (dn 7) ((tB 66 x64)::(Ff x24 i k g j a_lanes lanes c_lanes)) em ac fun c5 ch=>?_
       rcases Bool.eq_false_or_eq_true (x64) with ar | ar
       ·
        rw [Bc ar] at H
        have en:Kn 95 [(a,0)] ((tB 66 true)::(Ff x24 i k g j a_lanes lanes c_lanes)) c5:=(ch.setB 66 true (by rfl) ar).kp
        refine Dr [8,9] (dn 9) ((tS 68 i x24.2.1.length k)::(tA 67 (DH b y e d f))::(tB 66 true)::(Ff x24 i k g j a_lanes lanes c_lanes)) en ac fun gv ci=>?_
        obtain⟨x69,ex69,H⟩:=Ap H
        refine DV 10 rfl (by kernel_rfl) (by decide) (Al ci (by kernel_rfl)) fun K hK=>?_
        refine wc [.agg (DH b y e d f),.c (.slice i x24.2.1.length k)] ci ac (MH n ac.has y ((Ab (Ae l) (Ab (Ae m) Ad)):rep dr y _) x24.2.1 s ex69) fun hf ds h0 de a2 ad=>?_
        replace l:=l.mono a2
        replace m:=m.mono a2
        replace hr_lanes:=hr_lanes.mono a2
        replace q:=q.mono a2
        replace s:=s.mono a2
        obtain rfl:=de
        refine⟨.one (.c (.bool x69)),rfl,fun ft (eo:Kn 95 [(a,0)] ((tB 69 x69)::(tS 68 i x24.2.1.length k)::(tA 67 (DH b y e d f))::(tB 66 true)::(Ff x24 i k g j a_lanes lanes c_lanes)) ft)=>hK _ _ ad.plOk ?_⟩
        refine Dr [11,12] (dn 12) ((tB 71 x69)::(Ff x24 i k g j a_lanes lanes c_lanes)) eo ad fun c6 cj=>?_
        rcases Bool.eq_false_or_eq_true (x69) with au | au
        ·
         rw [Bc au] at H
         have ep:Kn 95 [(a,0)] ((tB 71 true)::(Ff x24 i k g j a_lanes lanes c_lanes)) c6:=(cj.setB 71 true (by rfl) au).kp
         refine Dr [13,14,15,16,17] (dn 17) ((tS 76 i x24.2.1.length k)::(tS 75 g x24.1.length j)::(tS 74 a_lanes lanes.length c_lanes)::(tA 73 (DH b y e d f))::(tI 72 x24.2.2.1)::(tB 71 true)::(tI 7 x24.2.2.1)::(Iq a_lanes lanes c_lanes)) ep ad fun gw ck=>?_
         obtain⟨x77,ex77,H⟩:=Ap H
         refine DV 18 rfl (by kernel_rfl) (by decide) (Al ck (by kernel_rfl)) fun K hK=>?_
         refine wc [.agg (DH b y e d f),.c (.slice a_lanes lanes.length c_lanes),.c (.slice g x24.1.length j),.c (.slice i x24.2.1.length k)] ck ad (JW n ad.has y ((Ab (Ae l) (Ab (Ae m) Ad)):rep ds y _) lanes hr_lanes x24.1 q x24.2.1 s ex77) fun hg dt h2 dg bn ae=>?_
         replace l:=l.mono bn
         replace m:=m.mono bn
         replace hr_lanes:=hr_lanes.mono bn
         obtain⟨b6,b7,rfl,gg⟩:=dg
         refine⟨.one (.c (.slice b6 x77.length b7)),rfl,fun fu (er:Kn 95 [(a,0)] ((tS 77 b6 x77.length b7)::(tS 76 i x24.2.1.length k)::(tS 75 g x24.1.length j)::(tS 74 a_lanes lanes.length c_lanes)::(tA 73 (DH b y e d f))::(tI 72 x24.2.2.1)::(tB 71 true)::(tI 7 x24.2.2.1)::(Iq a_lanes lanes c_lanes)) fu)=>hK _ _ ae.plOk ?_⟩
         refine Dr [19,20,21,22] (dn 22) ((tB 81 (x24.2.2.1 == ((x77.length:Nat):Int)))::(tI 7 x24.2.2.1)::(Iq a_lanes lanes c_lanes)) er ae fun c7 cl=>?_
         rcases Bool.eq_false_or_eq_true ((x24.2.2.1 == ((x77.length:Nat):Int))) with av | av
         ·
          rw [av,XW] at H
          have es:Kn 95 [(a,0)] ((tB 81 true)::(tI 7 x24.2.2.1)::(Iq a_lanes lanes c_lanes)) c7:=(cl.setB 81 true (by rfl) av).kp
          refine Dr [23,24,25,26,28] [28,26,25,24,23,22,21,20,19,18,17,16,15,14,13,12,11,10,9,8,7,6,5,4,3,2,1,0] (U5 b y e d f a_lanes lanes c_lanes x24) es ae fun gx cm=>?_
          obtain⟨x86,ex86,H⟩:=Ap H
          refine DV 27 rfl (by kernel_rfl) (by decide) (Al cm (by kernel_rfl)) fun K hK=>?_
          refine wc [.agg (DH b y e d f),.c (.slice none 0 0)] cm ae (JX n ae.has y ((Ab (Ae l) (Ab (Ae m) Ad)):rep dt y _) ([]:List Int) At.nil ex86) fun hi du h3 dh bo bt=>?_
          replace l:=l.mono bo
          replace m:=m.mono bo
          obtain⟨aj,ak,rfl,bx⟩:=dh
          refine⟨.one (.c (.slice aj x86.length ak)),rfl,fun fv (cn:Kn 95 [(a,0)] ((tS 86 aj x86.length ak)::(U5 b y e d f a_lanes lanes c_lanes x24)) fv)=>hK _ _ bt.plOk ?_⟩
          obtain⟨x88,ex88,H⟩:=Ap H
          refine DV 29 rfl (by kernel_rfl) (by decide) (Al cn (by kernel_rfl)) fun K hK=>?_
          refine wc [.agg (DH b y e d f),.c (.int .i64 0),.c (.slice none 0 0)] cn bt (JY n bt.has y ((Ab (Ae l) (Ab (Ae m) Ad)):rep du y _) 0 ([]:List Int) At.nil ex88) fun hj dv h4 di bd bu=>?_
          replace l:=l.mono bd
          replace m:=m.mono bd
          replace hr_lanes:=hr_lanes.mono (XU bo bd)
          replace bx:=bx.mono bd
          obtain⟨a6,a8,rfl,fn⟩:=di
          refine⟨.one (.c (.slice a6 x88.length a8)),rfl,fun fx (co:Kn 95 [(a,0)] ((tS 88 a6 x88.length a8)::(tS 86 aj x86.length ak)::(U5 b y e d f a_lanes lanes c_lanes x24)) fx)=>hK _ _ bu.plOk ?_⟩
          obtain⟨x89,ex89,H⟩:=Ap H
          refine DV 30 rfl (by kernel_rfl) (by decide) (Al co (by kernel_rfl)) fun K hK=>?_
          refine wc [.agg (DH b y e d f),.c (.slice a_lanes lanes.length c_lanes),.c (.slice aj x86.length ak),.c (.slice a6 x88.length a8)] co bu (Lu n bu.has y ((Ab (Ae l) (Ab (Ae m) Ad)):rep dv y _) lanes hr_lanes x86 bx x88 fn ex89) fun hl f8 h5 dj ct ah=>?_
          replace l:=l.mono ct
          replace m:=m.mono ct
          obtain rfl:=dj
          refine⟨.one (.c (.int .i64 x89)),rfl,fun fy (eu:Kn 95 [(a,0)] ((tI 89 x89)::(tS 88 a6 x88.length a8)::(tS 86 aj x86.length ak)::(U5 b y e d f a_lanes lanes c_lanes x24)) fy)=>hK _ _ ah.plOk ?_⟩
          refine Dr [31,32,33] [33,32,31,30,29,27,28,26,25,24,23,22,21,20,19,18,17,16,15,14,13,12,11,10,9,8,7,6,5,4,3,2,1,0] [tB 92 (x24.2.2.1 == x89)] eu ah fun c8 cp=>?_
          rcases Bool.eq_false_or_eq_true ((x24.2.2.1 == x89)) with aw | aw
          ·
           rw [aw,XW] at H
           have cq:Kn 95 [(a,0)] [tB 92 true] c8:=(cp.setB 92 true (by rfl) aw).kp
           obtain⟨x93,ex93,H⟩:=Ap H
           refine DV 34 rfl (by kernel_rfl) (by decide) (Al cq (by kernel_rfl)) fun K hK=>?_
           refine wc [] cq ah (DR n ah.has  ex93) fun hn f9 h6 dk gd bv=>?_
           obtain rfl:=dk
           refine⟨.one (.c (.bool x93)),rfl,fun fz (ev:Kn 95 [(a,0)] [tB 93 x93,tB 92 true] fz)=>hK _ _ bv.plOk ?_⟩
           refine Dr [35,36] [36,35,34,33,32,31,30,29,27,28,26,25,24,23,22,21,20,19,18,17,16,15,14,13,12,11,10,9,8,7,6,5,4,3,2,1,0] [tB 4 x93] ev bv fun gy ew=>?_
           refine AE (by kernel_rfl) (wp_ret ?_)
           obtain rfl:=XZ H
           exact rt (.one (.c (.bool x93))) ew bv rfl
          ·
           rw [aw,XV] at H
           have ex:Kn 95 [(a,0)] [tB 92 false] c8:=(cp.setB 92 false (by rfl) aw).kp
           refine Dr [34,35,36] [36,35,34,33,32,31,30,29,27,28,26,25,24,23,22,21,20,19,18,17,16,15,14,13,12,11,10,9,8,7,6,5,4,3,2,1,0] [tB 4 false] ex ah fun gz ey=>?_
           refine AE (by kernel_rfl) (wp_ret ?_)
           obtain rfl:=XZ H
           exact rt (.one (.c (.bool false))) ey ah rfl
         ·
          rw [av,XV] at H
          have ez:Kn 95 [(a,0)] ((tB 81 false)::(tI 7 x24.2.2.1)::(Iq a_lanes lanes c_lanes)) c7:=(cl.setB 81 false (by rfl) av).kp
          refine Dr [23,24,25,26,27,28,29,30,31,32,33,34,35,36] (dn 36) [tB 4 false] ez ae fun g0 e0=>?_
          refine AE (by kernel_rfl) (wp_ret ?_)
          obtain rfl:=XZ H
          exact rt (.one (.c (.bool false))) e0 ae rfl
        ·
         rw [Bd au] at H
         have e1:Kn 95 [(a,0)] ((tB 71 false)::(Ff x24 i k g j a_lanes lanes c_lanes)) c6:=(cj.setB 71 false (by rfl) au).kp
         refine Dr [13,14,15,16,17,18,19,20,21,22,23,24,25,26,27,28,29,30,31,32,33,34,35,36] (dn 36) [tB 4 false] e1 ad fun g1 e2=>?_
         refine AE (by kernel_rfl) (wp_ret ?_)
         obtain rfl:=XZ H
         exact rt (.one (.c (.bool false))) e2 ad rfl
       ·
        rw [Bd ar] at H
        have e3:Kn 95 [(a,0)] ((tB 66 false)::(Ff x24 i k g j a_lanes lanes c_lanes)) c5:=(ch.setB 66 false (by rfl) ar).kp
        refine Dr [8,9,10,11,12,13,14,15,16,17,18,19,20,21,22,23,24,25,26,27,28,29,30,31,32,33,34,35,36] (dn 36) [tB 4 false] e3 ac fun g2 e4=>?_
        refine AE (by kernel_rfl) (wp_ret ?_)
        obtain rfl:=XZ H
        exact rt (.one (.c (.bool false))) e4 ac rfl
      ·
       rw [aq,XV] at H
       have e5:Kn 95 [(a,0)] ((tB 61 false)::(Ff x24 i k g j a_lanes lanes c_lanes)) c4:=(cf.setB 61 false (by rfl) aq).kp
       refine Dr [3,4,5,6,7,8,9,10,11,12,13,14,15,16,17,18,19,20,21,22,23,24,25,26,27,28,29,30,31,32,33,34,35,36] (dn 36) [tB 4 false] e5 o fun g3 e6=>?_
       refine AE (by kernel_rfl) (wp_ret ?_)
       obtain rfl:=XZ H
       exact rt (.one (.c (.bool false))) e6 o rfl
abbrev F2 (b:Option Addr) (y:Ag) (g:Nat) (e:Option Addr) (i:Nat):List SC:=[.slice b y.room.length g,.slice e y.buses.length i,.int .i64 y.broken]
abbrev MI (x38:(List Int)×Int×Int) (d:Option Addr) (f:Nat):TM:=[tI 4 x38.2.1,tS 3 d x38.1.length f]
abbrev RZ (x38:(List Int)×Int×Int) (d:Option Addr) (f:Nat):TM:=[tI 5 x38.2.2,tI 4 x38.2.1,tS 3 d x38.1.length f,tP 1 0 0]
abbrev U6 (b:Option Addr) (y:Ag) (g:Nat) (e:Option Addr) (i:Nat) (x43:Int) (x38:(List Int)×Int×Int) (d:Option Addr) (f:Nat):TM:=(tA 50 (F2 b y g e i))::(tA 48 (F2 b y g e i))::(tA 47 (F2 b y g e i))::(tI 6 x43)::(tI 5 x38.2.2)::(MI x38 d f)
abbrev MJ:TM:=[tB 12 false,tP 1 0 0]
set_option maxRecDepth 100000 in
set_option maxHeartbeats 4000000 in
theorem LP (n:Nat) {h:Ac} {w:World} (hh:Db h w) (y:Ag) {cs_y:List Value} (hx_y:rep h y cs_y) {r:Bool} (H:Fk n y=some r) :
  Calls Tryz.prog 4 #[.agg cs_y.toArray] w (Dd (fun h v=>v=.bool r) h w):=by
 obtain⟨_,_,rfl,⟨b,g,rfl,k⟩,⟨_,_,rfl,⟨e,i,rfl,l⟩,rfl⟩⟩:=hx_y
 refine enter 89 [.agg (F2 b y g e i)] Tryz.func4 rfl rfl rfl rfl fun t hk=>?_
 have hm:=Aj.begin h w hh
 unfold Fk at H
 refine XT (Aa (wl fun K hK=>?_))
 refine wb (.agg (F2 b y g e i)) hk hm fun a fe hc (c9:Kn 89 [(a,0)] [tP 1 0 0,tA 0 (F2 b y g e i)] fe) a8=>hK _ _ ?_
 refine Rk 1 1 [tP 1 0 0] c9 a8 fun fr dh=>?_
 refine wf (XT (XT ?_))
 obtain⟨bn,o,H⟩:=Ap H
 refine Aq (fun a' w'=>∃ (bp:Array Value)(a4:Ac),a' = ⟨bp,[]⟩∧Kn 89 [(a,0)] [tP 1 0 0,tB 33 bn] bp∧Aj ⟨w,h,A9⟩ a4 [(a,0)] [⟨F2 b y g e i,some 25⟩] [] w'∧Ac.le h a4) ?_ ?_
 ·
  refine Aa (Rk 0 1 [tA 9 (F2 b y g e i),tP 1 0 0] dh a8 fun fx dq=>?_)
  obtain⟨x10,ex10,o⟩:=Ap o
  refine wl fun K hK=>?_
  refine wc [.agg (F2 b y g e i)] dq a8 (Oj n a8.has y ((Ab (Ae k) (Ab (Ae l) Ad)):rep h y _) ex10) fun go c6 g4 cy ad af=>?_
  replace k:=k.mono ad
  replace l:=l.mono ad
  obtain rfl:=cy
  refine⟨.one (.c (.bool x10)),rfl,fun fa (ea:Kn 89 [(a,0)] [tB 10 x10,tA 9 (F2 b y g e i),tP 1 0 0] fa)=>hK _ _ ?_⟩
  refine Rk 2 2 [tB 12 (!x10),tP 1 0 0] ea af fun co b2=>?_
  rcases Bool.eq_false_or_eq_true ((!x10)) with ap | ap
  ·
   rw [ap,XW] at o
   have ee:Kn 89 [(a,0)] [tB 12 true,tP 1 0 0] co:=(b2.setB 12 true (by rfl) ap).kp
   refine Rk 4 21 [tB 33 true,tP 1 0 0] ee af fun gb ef=>?_
   refine wf ?_
   obtain rfl:=XZ o
   exact XY _ ⟨_,rfl,ef.kp,af,ad⟩
  ·
   rw [ap,XV] at o
   have eg:Kn 89 [(a,0)] MJ co:=(b2.setB 12 false (by rfl) ap).kp
   refine Rk 4 1 ((tA 13 (F2 b y g e i))::MJ) eg af fun gc b3=>?_
   obtain⟨x14,ex14,o⟩:=Ap o
   refine AF _ rfl (Al b3 (by kernel_rfl)) fun K hK=>?_
   refine wc [.agg (F2 b y g e i)] b3 af (HV n af.has y ((Ab (Ae k) (Ab (Ae l) Ad)):rep c6 y _) ex14) fun gs fk g8 c1 a6 s=>?_
   obtain rfl:=c1
   refine⟨.one (.c (.int .i64 x14)),rfl,fun fc (eh:Kn 89 [(a,0)] ((tI 14 x14)::(tA 13 (F2 b y g e i))::MJ) fc)=>hK _ _ ?_⟩
   refine Rk 6 2 ((tB 16 (x14 == 0))::MJ) eh s fun cp b4=>?_
   rcases Bool.eq_false_or_eq_true ((x14 == 0)) with aq | aq
   ·
    rw [aq,XW] at o
    have ei:Kn 89 [(a,0)] ((tB 16 true)::MJ) cp:=(b4.setB 16 true (by rfl) aq).kp
    refine Rk 8 6 ((tB 22 (((y.buses.length:Nat):Int) == 5))::MJ) ei s fun cq b5=>?_
    rcases Bool.eq_false_or_eq_true ((((y.buses.length:Nat):Int) == 5)) with ar | ar
    ·
     rw [ar,XW] at o
     have ej:Kn 89 [(a,0)] ((tB 22 true)::MJ) cq:=(b5.setB 22 true (by rfl) ar).kp
     refine Rk 14 4 ((tB 26 (decide (y.broken>1)))::(tB 22 true)::MJ) ej s fun cr b6=>?_
     rcases Bool.eq_false_or_eq_true (decide (y.broken>1)) with au | au
     ·
      rw [au,XW] at o
      have ek:Kn 89 [(a,0)] ((tB 26 true)::(tB 22 true)::MJ) cr:=(b6.setB 26 true (by rfl) au).kp
      refine Rk 18 7 [tB 33 true,tP 1 0 0] ek s fun gd el=>?_
      refine wf ?_
      obtain rfl:=XZ o
      exact XY _ ⟨_,rfl,el.kp,s,XU ad a6⟩
     ·
      rw [au,XV] at o
      have em:Kn 89 [(a,0)] ((tB 26 false)::(tB 22 true)::MJ) cr:=(b6.setB 26 false (by rfl) au).kp
      refine Rk 18 7 [tB 33 (decide (((y.room.length:Nat):Int)>2)),tP 1 0 0] em s fun gf en=>?_
      refine wf ?_
      obtain rfl:=XZ o
      exact XY _ ⟨_,rfl,en.kp,s,XU ad a6⟩
    ·
     rw [ar,XV] at o
     have eo:Kn 89 [(a,0)] ((tB 22 false)::MJ) cq:=(b5.setB 22 false (by rfl) ar).kp
     refine Rk 14 11 [tB 33 false,tP 1 0 0] eo s fun gg ep=>?_
     refine wf ?_
     obtain rfl:=XZ o
     exact XY _ ⟨_,rfl,ep.kp,s,XU ad a6⟩
   ·
    rw [aq,XV] at o
    have er:Kn 89 [(a,0)] ((tB 16 false)::MJ) cp:=(b4.setB 16 false (by rfl) aq).kp
    refine Rk 8 17 [tB 33 false,tP 1 0 0] er s fun gh es=>?_
    refine wf ?_
    obtain rfl:=XZ o
    exact XY _ ⟨_,rfl,es.kp,s,XU ad a6⟩
 ·
  rintro _ g9 ⟨bp,a4,rfl,bh,aw,ca⟩
  replace k:=k.mono ca
  replace l:=l.mono ca
  refine wC (bn) bh (fun bd=>?_) (fun bd=>?_)
  ·
   rw [Bc bd] at H
   refine XT (Aa ?_)
   obtain⟨x34,ex34,H⟩:=Ap H
   refine wl fun K hK=>?_
   refine wc [] bh aw (DR n aw.has  ex34) fun gu fl ha c2 fo ce=>?_
   obtain rfl:=c2
   refine⟨.one (.c (.bool x34)),rfl,fun fd (et:Kn 89 [(a,0)] [tB 34 x34,tP 1 0 0,tB 33 bn] fd)=>hK _ _ ?_⟩
   refine Rk 1 1 [tB 2 x34] et ce fun gi eu=>?_
   refine wf (wp_ret ?_)
   obtain rfl:=XZ H
   exact rt (.one (.c (.bool x34))) eu ce rfl
  ·
   rw [Bd bd] at H
   refine wp_skip (XT (Aa (Rk 0 1 [tA 36 (F2 b y g e i),tP 1 0 0] bh aw fun gj ev=>?_)))
   obtain⟨x37,ex37,H⟩:=Ap H
   refine wl fun K hK=>?_
   refine wc [.agg (F2 b y g e i)] ev aw (M5 n aw.has y ((Ab (Ae k) (Ab (Ae l) Ad)):rep a4 y _) ex37) fun gv c7 hb c3 cb cf=>?_
   obtain⟨_,rfl,⟨_,_,rfl,⟨az,a2,rfl,e1⟩,⟨_,_,rfl,⟨a0,a3,rfl,e2⟩,rfl⟩⟩⟩:=c3
   refine⟨.one (.agg [.slice az x37.room.length a2,.slice a0 x37.buses.length a3,.int .i64 x37.broken]),rfl,fun ff (ew:Kn 89 [(a,0)] [tA 37 [.slice az x37.room.length a2,.slice a0 x37.buses.length a3,.int .i64 x37.broken],tA 36 (F2 b y g e i),tP 1 0 0] ff)=>hK _ _ ?_⟩
   obtain⟨x38,ex38,H⟩:=Ap H
   refine wl fun K hK=>?_
   refine wc [.agg [.slice az x37.room.length a2,.slice a0 x37.buses.length a3,.int .i64 x37.broken]] ew cf (Ls n cf.has x37 ((Ab (Ae e1) (Ab (Ae e2) Ad)):rep c7 x37 _) ex38) fun gw c8 gx cs b7 a7=>?_
   replace k:=k.mono (XU cb b7)
   replace l:=l.mono (XU cb b7)
   obtain⟨_,_,_,rfl,⟨d,f,rfl,ax⟩,rfl,rfl⟩:=cs
   refine⟨.tup [.c (.slice d x38.1.length f),.c (.int .i64 x38.2.1),.c (.int .i64 x38.2.2)],rfl,fun e3 (da:Kn 89 [(a,0)] [(38,.tup [.c (.slice d x38.1.length f),.c (.int .i64 x38.2.1),.c (.int .i64 x38.2.2)]),tA 37 [.slice az x37.room.length a2,.slice a0 x37.buses.length a3,.int .i64 x37.broken],tA 36 (F2 b y g e i),tP 1 0 0] e3)=>hK _ _ ?_⟩
   refine Rk 3 7 (RZ x38 d f) da a7 fun fp db=>?_
   refine wf (XT (Aa (Rk 0 1 ((tA 42 (F2 b y g e i))::(RZ x38 d f)) db a7 fun fq dc=>?_)))
   obtain⟨x43,ex43,H⟩:=Ap H
   refine wl fun K hK=>?_
   refine wc [.agg (F2 b y g e i)] dc a7 (Lt n a7.has y ((Ab (Ae k) (Ab (Ae l) Ad)):rep c8 y _) ex43) fun gk br gy ct bi z=>?_
   replace k:=k.mono bi
   replace l:=l.mono bi
   replace ax:=ax.mono bi
   obtain rfl:=ct
   refine⟨.one (.c (.int .i64 x43)),rfl,fun e4 (dd:Kn 89 [(a,0)] ((tI 43 x43)::(tA 42 (F2 b y g e i))::(RZ x38 d f)) e4)=>hK _ _ ?_⟩
   refine Rk 2 1 ((tI 6 x43)::(RZ x38 d f)) dd z fun fs de=>?_
   refine wf (XT (Aa (Rk 0 1 ((tS 7 none 0 0)::(tI 6 x43)::(RZ x38 d f)) de z fun ft df=>?_)))
   refine wf (XT (Aa (Rk 0 1 ((tI 8 0)::(tS 7 none 0 0)::(tI 6 x43)::(RZ x38 d f)) df z fun fu dg=>?_)))
   refine wf (XT (XT (Aa (Rk 0 2 ((tB 45 (x43 == 0))::(tI 8 0)::(tS 7 none 0 0)::(tI 6 x43)::(RZ x38 d f)) dg z fun fv be=>?_))))
   refine wf ?_
   obtain⟨j,p,H⟩:=Ap H
   refine Aq (fun a' w'=>∃ (u:Option Addr)(x:Nat)(bo:Array Value)(ai:Ac),a' = ⟨bo,[]⟩∧Kn 89 [(a,0)] ((tI 8 j.1)::(tS 7 u j.2.1.length x)::(tI 6 j.2.2)::(tI 5 x38.2.2)::(MI x38 d f)) bo∧Aj ⟨w,h,A9⟩ ai [(a,0)] [⟨F2 b y g e i,some 25⟩] [] w'∧Ac.le br ai∧At ai u x j.2.1) ?_ ?_
   ·
    refine wC ((x43 == 0)) be (fun ba=>?_) (fun ba=>?_)
    ·
     rw [ba,XW] at p
     refine XT (Ax (by kernel_rfl) ?_)
     replace z:=z.drew
     refine A3 [] [(a,0)] [⟨F2 b y g e i,some 25⟩] ?_
     refine Dr [0,1,3] [3,1,0] (U6 b y g e i x43 x38 d f) be z fun fw di=>?_
     obtain⟨x49,ex49,p⟩:=Ap p
     refine Dl 2 fun K hK=>?_
     refine wc [.agg (F2 b y g e i),.c (.slice none 0 0)] di z (JX n z.has y ((Ab (Ae k) (Ab (Ae l) Ad)):rep br y _) ([]:List Int) At.nil ex49) fun gl c4 gz cu a5 bk=>?_
     replace k:=k.mono a5
     replace l:=l.mono a5
     obtain⟨ag,ah,rfl,bm⟩:=cu
     refine⟨.one (.c (.slice ag x49.length ah)),rfl,fun e5 (dj:Kn 89 [(a,0)] ((tS 49 ag x49.length ah)::(U6 b y g e i x43 x38 d f)) e5)=>hK _ _ bk.plOk ?_⟩
     obtain⟨x51,ex51,p⟩:=Ap p
     refine Dl 4 fun K hK=>?_
     refine wc [.agg (F2 b y g e i),.c (.int .i64 0),.c (.slice none 0 0)] dj bk (JY n bk.has y ((Ab (Ae k) (Ab (Ae l) Ad)):rep c4 y _) 0 ([]:List Int) At.nil ex51) fun gm c5 g0 cv av bl=>?_
     replace k:=k.mono av
     replace l:=l.mono av
     replace bm:=bm.mono av
     obtain⟨ay,a1,rfl,e0⟩:=cv
     refine⟨.one (.c (.slice ay x51.length a1)),rfl,fun e6 (dk:Kn 89 [(a,0)] ((tS 51 ay x51.length a1)::(tS 49 ag x49.length ah)::(U6 b y g e i x43 x38 d f)) e6)=>hK _ _ bl.plOk ?_⟩
     obtain⟨x52,ex52,p⟩:=Ap p
     refine Dl 5 fun K hK=>?_
     refine wc [.agg (F2 b y g e i),.c (.slice ag x49.length ah),.c (.slice ay x51.length a1),.c (.slice none 0 0)] dk bl (Rv n bl.has y ((Ab (Ae k) (Ab (Ae l) Ad)):rep c5 y _) x49 bm x51 e0 ([]:List Int) At.nil ex52) fun gn fg g1 cw b8 ae=>?_
     obtain⟨_,_,rfl,⟨ab,ac,rfl,cg⟩,rfl⟩:=cw
     refine⟨.tup [.c (.slice ab x52.1.length ac),.c (.int .i64 x52.2)],rfl,fun e7 (dl:Kn 89 [(a,0)] ((52,.tup [.c (.slice ab x52.1.length ac),.c (.int .i64 x52.2)])::(tS 51 ay x51.length a1)::(tS 49 ag x49.length ah)::(U6 b y g e i x43 x38 d f)) e7)=>hK _ _ ae.plOk ?_⟩
     refine Dr [6,7,8,9,10] [10,9,8,7,6,5,4,2,3,1,0] ((tI 8 x52.2)::(tS 7 ab x52.1.length ac)::(tI 6 x43)::(tI 5 x38.2.2)::(MI x38 d f)) dl ae fun fy dm=>?_
     refine AE (by kernel_rfl) (XT (Aa (Rk 0 2 ((tB 56 (decide (x52.2<0)))::(tI 8 x52.2)::(tS 7 ab x52.1.length ac)::(tI 6 x43)::(tI 5 x38.2.2)::(MI x38 d f)) dm ae fun fz bf=>?_)))
     refine wf (wC (decide (x52.2<0)) bf (fun bb=>?_) (fun bb=>?_))
     ·
      rw [bb,XW] at p
      refine Aa (Rk 0 1 ((tI 6 9)::(tI 8 x52.2)::(tS 7 ab x52.1.length ac)::(tI 5 x38.2.2)::(MI x38 d f)) bf ae fun f0 dn=>?_)
      refine wf ?_
      obtain rfl:=XZ p
      exact XY ab ⟨ac,_,_,rfl,dn.kp,ae,XU a5 (XU av b8),cg⟩
     ·
      rw [bb,XV] at p
      refine wp_skip ?_
      obtain rfl:=XZ p
      exact XY ab ⟨ac,_,_,rfl,bf.kp,ae,XU a5 (XU av b8),cg⟩
    ·
     rw [ba,XV] at p
     refine wp_skip ?_
     obtain rfl:=XZ p
     exact XY none ⟨0,_,_,rfl,be.kp,z,Ac.le_refl _,At.nil⟩
   ·
    rintro _ g2 ⟨u,x,bo,ai,rfl,dp,m,bj,ez⟩
    replace k:=k.mono bj
    replace l:=l.mono bj
    replace ax:=ax.mono bj
    refine XT (XT (Aa (Rk 0 2 ((tB 58 (j.2.2 != 0))::(tI 8 j.1)::(tS 7 u j.2.1.length x)::(tI 6 j.2.2)::(tI 5 x38.2.2)::(MI x38 d f)) dp m fun f1 bg=>?_)))
    refine wf (wC ((j.2.2 != 0)) bg (fun bc=>?_) (fun bc=>?_))
    ·
     rw [bc,XW] at H
     refine XT ?_
     obtain⟨ch,q,H⟩:=Ap H
     refine Aq (fun a' w'=>∃ (bq:Array Value)(a9:Ac),a' = ⟨bq,[]⟩∧Kn 89 [(a,0)] [tB 2 ch] bq∧Aj ⟨w,h,A9⟩ a9 [(a,0)] [⟨F2 b y g e i,some 25⟩] [] w'∧Ac.le ai a9) ?_ ?_
     ·
      refine Aa (Rk 0 4 ((tB 62 (x38.2.2 == j.2.2))::(MI x38 d f)) bg m fun ci bs=>?_)
      rcases Bool.eq_false_or_eq_true ((x38.2.2 == j.2.2)) with aj | aj
      ·
       rw [aj,XW] at q
       have dr:Kn 89 [(a,0)] ((tB 62 true)::(MI x38 d f)) ci:=(bs.setB 62 true (by rfl) aj).kp
       refine Rk 4 5 [tB 67 (((x38.1.length:Nat):Int) == 0),tI 4 x38.2.1] dr m fun cj bt=>?_
       rcases Bool.eq_false_or_eq_true ((((x38.1.length:Nat):Int) == 0)) with ak | ak
       ·
        rw [ak,XW] at q
        have ds:Kn 89 [(a,0)] [tB 67 true,tI 4 x38.2.1] cj:=(bt.setB 67 true (by rfl) ak).kp
        refine Rk 9 4 [tB 71 (x38.2.1 == 0)] ds m fun ck bu=>?_
        rcases Bool.eq_false_or_eq_true ((x38.2.1 == 0)) with al | al
        ·
         rw [al,XW] at q
         have bv:Kn 89 [(a,0)] [tB 71 true] ck:=(bu.setB 71 true (by rfl) al).kp
         obtain⟨x72,ex72,q⟩:=Ap q
         refine AF _ rfl (Al bv (by kernel_rfl)) fun K hK=>?_
         refine wc [] bv m (DR n m.has  ex72) fun gp fh g3 cx ex cc=>?_
         obtain rfl:=cx
         refine⟨.one (.c (.bool x72)),rfl,fun e8 (dt:Kn 89 [(a,0)] [tB 72 x72,tB 71 true] e8)=>hK _ _ ?_⟩
         refine Rk 14 2 [tB 2 x72] dt cc fun f2 du=>?_
         refine wf ?_
         obtain rfl:=XZ q
         exact XY _ ⟨_,rfl,du.kp,cc,ex⟩
        ·
         rw [al,XV] at q
         have dv:Kn 89 [(a,0)] [tB 71 false] ck:=(bu.setB 71 false (by rfl) al).kp
         refine Rk 13 3 [tB 2 false] dv m fun f3 dw=>?_
         refine wf ?_
         obtain rfl:=XZ q
         exact XY _ ⟨_,rfl,dw.kp,m,Ac.le_refl _⟩
       ·
        rw [ak,XV] at q
        have dx:Kn 89 [(a,0)] [tB 67 false,tI 4 x38.2.1] cj:=(bt.setB 67 false (by rfl) ak).kp
        refine Rk 9 7 [tB 2 false] dx m fun f4 dy=>?_
        refine wf ?_
        obtain rfl:=XZ q
        exact XY _ ⟨_,rfl,dy.kp,m,Ac.le_refl _⟩
      ·
       rw [aj,XV] at q
       have dz:Kn 89 [(a,0)] ((tB 62 false)::(MI x38 d f)) ci:=(bs.setB 62 false (by rfl) aj).kp
       refine Rk 4 12 [tB 2 false] dz m fun f5 d0=>?_
       refine wf ?_
       obtain rfl:=XZ q
       exact XY _ ⟨_,rfl,d0.kp,m,Ac.le_refl _⟩
     ·
      rintro _ g5 ⟨bq,a9,rfl,d1,ey,fm⟩
      refine wp_ret ?_
      obtain rfl:=XZ H
      exact rt (.one (.c (.bool ch))) d1 ey rfl
    ·
     rw [bc,XV] at H
     refine wp_skip (XT (Aa (Rk 0 3 ((tB 76 (x38.2.2 == 0))::(tI 8 j.1)::(tS 7 u j.2.1.length x)::(MI x38 d f)) bg m fun cl bw=>?_)))
     rcases Bool.eq_false_or_eq_true ((x38.2.2 == 0)) with am | am
     ·
      rw [am,XW] at H
      have d2:Kn 89 [(a,0)] ((tB 76 true)::(tI 8 j.1)::(tS 7 u j.2.1.length x)::(MI x38 d f)) cl:=(bw.setB 76 true (by rfl) am).kp
      refine Rk 3 2 [tS 78 u j.2.1.length x,tS 77 d x38.1.length f,tB 76 true,tI 8 j.1,tI 4 x38.2.1] d2 m fun f6 bx=>?_
      obtain⟨x79,ex79,H⟩:=Ap H
      refine AF _ rfl (Al bx (by kernel_rfl)) fun K hK=>?_
      refine wc [.c (.slice d x38.1.length f),.c (.slice u j.2.1.length x)] bx m (Jl n m.has x38.1 ax j.2.1 ez ex79) fun gq fi g6 cz b9 aa=>?_
      replace k:=k.mono b9
      replace l:=l.mono b9
      obtain rfl:=cz
      refine⟨.one (.c (.bool x79)),rfl,fun e9 (d3:Kn 89 [(a,0)] [tB 79 x79,tS 78 u j.2.1.length x,tS 77 d x38.1.length f,tB 76 true,tI 8 j.1,tI 4 x38.2.1] e9)=>hK _ _ ?_⟩
      refine Rk 6 2 [tB 81 x79,tI 8 j.1,tI 4 x38.2.1] d3 aa fun cm bz=>?_
      rcases Bool.eq_false_or_eq_true (x79) with an | an
      ·
       rw [Bc an] at H
       have d4:Kn 89 [(a,0)] [tB 81 true,tI 8 j.1,tI 4 x38.2.1] cm:=(bz.setB 81 true (by rfl) an).kp
       refine Rk 8 5 [tB 86 (x38.2.1 == j.1)] d4 aa fun cn b0=>?_
       rcases Bool.eq_false_or_eq_true ((x38.2.1 == j.1)) with ao | ao
       ·
        rw [ao,XW] at H
        have b1:Kn 89 [(a,0)] [tB 86 true] cn:=(b0.setB 86 true (by rfl) ao).kp
        obtain⟨x87,ex87,H⟩:=Ap H
        refine AF _ rfl (Al b1 (by kernel_rfl)) fun K hK=>?_
        refine wc [] b1 aa (DR n aa.has  ex87) fun gr fj g7 c0 fn cd=>?_
        obtain rfl:=c0
        refine⟨.one (.c (.bool x87)),rfl,fun fb (d5:Kn 89 [(a,0)] [tB 87 x87,tB 86 true] fb)=>hK _ _ ?_⟩
        refine Rk 14 2 [tB 2 x87] d5 cd fun f7 d6=>?_
        refine wf (wp_ret ?_)
        obtain rfl:=XZ H
        exact rt (.one (.c (.bool x87))) d6 cd rfl
       ·
        rw [ao,XV] at H
        have d7:Kn 89 [(a,0)] [tB 86 false] cn:=(b0.setB 86 false (by rfl) ao).kp
        refine Rk 13 3 [tB 2 false] d7 aa fun f8 d8=>?_
        refine wf (wp_ret ?_)
        obtain rfl:=XZ H
        exact rt (.one (.c (.bool false))) d8 aa rfl
      ·
       rw [Bd an] at H
       have d9:Kn 89 [(a,0)] [tB 81 false,tI 8 j.1,tI 4 x38.2.1] cm:=(bz.setB 81 false (by rfl) an).kp
       refine Rk 8 8 [tB 2 false] d9 aa fun f9 eb=>?_
       refine wf (wp_ret ?_)
       obtain rfl:=XZ H
       exact rt (.one (.c (.bool false))) eb aa rfl
     ·
      rw [am,XV] at H
      have ec:Kn 89 [(a,0)] ((tB 76 false)::(tI 8 j.1)::(tS 7 u j.2.1.length x)::(MI x38 d f)) cl:=(bw.setB 76 false (by rfl) am).kp
      refine Rk 3 13 [tB 2 false] ec m fun ga ed=>?_
      refine wf (wp_ret ?_)
      obtain rfl:=XZ H
      exact rt (.one (.c (.bool false))) ed m rfl
end Go.Proofs.YthcbemnflgjadaaGreat
