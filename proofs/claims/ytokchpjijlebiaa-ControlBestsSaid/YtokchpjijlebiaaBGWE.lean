/- Each call computes its plain function. -/
import Derived.Test.YtokchpjijlebiaaProg
import Derived.Test.YtokchpjijlebiaaBGP0
import Derived.Test.YtokchpjijlebiaaBGWA
import Derived.Test.YtokchpjijlebiaaBGWC
set_option linter.all false
namespace Go.Proofs.Ytokchpjijlebiaa
open Go Go.RowKit
open Rep (rep)
open KRep (kv)
open VRep (rv)
abbrev P6 (x38:Rg):List SC:=[.int .i64 x38.lo,.int .i64 x38.hi]
abbrev TN (x60:Cy):List SC:=[.int .i64 x60.tm.lo,.int .i64 x60.tm.hi]
abbrev IS (r_:Af):List SC:=[.int .i64 r_.turn.lo,.int .i64 r_.turn.hi]
abbrev Ds:List SC:=[.slice none 0 0,.slice none 0 0,.slice none 0 0]
abbrev Om (x60:Cy):List SC:=[.int .i64 x60.stop,.int .i64 x60.tm.lo,.int .i64 x60.tm.hi]
abbrev On (d e f a5 a8:Nat) (x_v21:Int):Ba:=[(d,0),(e,0),(f,0),(a5,a8+(x_v21:Int).toNat*2)]
abbrev Cn (d e f ac ad:Nat) (x_v13:Int):Ba:=[(d,0),(e,0),(f,0),(ac,ad+(x_v13:Int).toNat*3)]
abbrev K8 (g:Option Addr) (x_v10:List Int) (k:Nat) (a:Option Addr) (x_v11:List Int) (b:Nat) (ai:Option Addr) (x_v12:List (List Int)) (aj:Nat):List SC:=[.slice g x_v10.length k,.slice a x_v11.length b,.slice ai x_v12.length aj]
abbrev S5 (g:Option Addr) (x_v10:List Int) (k:Nat) (a:Option Addr) (x_v11:List Int) (b:Nat) (z:Option Addr) (x48:List (List Int)) (aa:Nat):List SC:=[.slice g x_v10.length k,.slice a x_v11.length b,.slice z x48.length aa]
abbrev FU (al:Option Addr) (ab:((List Int)×(List Int)×(List (List Int)))) (ao:Nat) (am:Option Addr) (ap:Nat) (an:Option Addr) (aq:Nat):List SC:=[.slice al ab.1.length ao,.slice am ab.2.1.length ap,.slice an ab.2.2.length aq]
abbrev BO (p:Option Addr) (r_:Af) (s:Nat) (q:Option Addr) (u:Nat) (x:Option Addr) (y:Nat):List SC:=[.slice p r_.legs.length s,.int .i64 r_.turn.lo,.int .i64 r_.turn.hi,.slice q r_.buses.length u,.slice x r_.spares.length y,.int .i64 r_.unit,.int .i64 r_.gap,.int .i64 r_.fr,.int .i64 r_.to_]
abbrev EZ (p:Option Addr) (r_:Af) (s:Nat) (q:Option Addr) (u:Nat) (x:Option Addr) (y:Nat) (g:Option Addr) (x_v10:List Int) (k:Nat) (a:Option Addr) (x_v11:List Int) (b:Nat) (z:Option Addr) (x48:List (List Int)) (aa:Nat) (x60:Cy):List CP:=[⟨BO p r_ s q u x y,some 28⟩,⟨Ds,some 75⟩,⟨S5 g x_v10 k a x_v11 b z x48 aa,some 75⟩,⟨Om x60,none⟩]
abbrev DY (late x_v13:Int):TM:=[tB 7 ((Int.tmod (Int.fdiv late (2 ^ (min (IntKind.u64.wrap x_v13:Int).toNat 64))) 2) == 1),tI 6 x_v13,tP 5 2 0,tP 4 1 0,tP 2 0 0,tI 1 late]
abbrev JG (late x_v13:Int) (a:Option Addr) (x_v11:List Int) (b:Nat) (x60:Cy) (g:Option Addr) (x_v10:List Int) (k:Nat):TM:=[tB 71 ((Int.tmod (Int.fdiv late (2 ^ (min (IntKind.u64.wrap x_v13:Int).toNat 64))) 2) == 1),tP 69 0 1,tS 68 a x_v11.length b,tB 63 ((Int.tmod (Int.fdiv late (2 ^ (min (IntKind.u64.wrap x_v13:Int).toNat 64))) 2) == 1),tA 62 (TN x60),tS 56 g x_v10.length k,tI 6 x_v13,tP 5 2 0,tP 4 1 0,tP 2 0 0,tI 1 late]
abbrev GZ (x_v13 late:Int):TM:=[tI 6 x_v13,tP 5 2 0,tP 4 1 0,tP 2 0 0,tI 1 late]
abbrev Qm (r_:Af) (ar:Option Addr) (x66:List Int) (au:Nat) (late x_v13:Int) (a:Option Addr) (x_v11:List Int) (b:Nat):TM:=(tA 70 (IS r_))::(tP 75 2 0)::(tS 66 ar x66.length au)::(tB 71 ((Int.tmod (Int.fdiv late (2 ^ (min (IntKind.u64.wrap x_v13:Int).toNat 64))) 2) == 1))::(tS 68 a x_v11.length b)::(GZ x_v13 late)
abbrev Qn (late x_v13:Int) (x38:Rg) (ax:Option Addr) (x_v20:List Int) (ay:Nat) (x_v21:Int):TM:=(tB 40 ((Int.tmod (Int.fdiv late (2 ^ (min (IntKind.u64.wrap x_v13:Int).toNat 64))) 2) == 1))::(tA 39 (P6 x38))::(tS 34 ax x_v20.length ay)::(tI 9 x_v21)::(DY late x_v13)
abbrev Qo (late x_v13:Int) (a:Option Addr) (x_v11:List Int) (b:Nat) (g:Option Addr) (x_v10:List Int) (k:Nat):TM:=(tB 71 ((Int.tmod (Int.fdiv late (2 ^ (min (IntKind.u64.wrap x_v13:Int).toNat 64))) 2) == 1))::(tS 68 a x_v11.length b)::(tS 56 g x_v10.length k)::(GZ x_v13 late)
set_option maxRecDepth 100000 in
set_option maxHeartbeats 4000000 in
theorem Rn (n:Nat) {h:Ae} {w:World} (hh:Dn h w) (r_:Af) {cs_r_:List Value} (hx_r_:rep h r_ cs_r_) (late:Int) {r:Bd} (H:Jv n r_ late=some r) :
  Calls Try.prog 61 #[.agg cs_r_.toArray,.int .i64 late] w (Dp (fun h v=>∃ cs,v=.agg cs.toArray∧rep h r cs) h w):=by
 obtain⟨_,_,rfl,⟨p,s,rfl,bm⟩,⟨_,_,rfl,⟨_,_,rfl,rfl,rfl⟩,⟨_,_,rfl,⟨q,u,rfl,bn⟩,⟨_,_,rfl,⟨x,y,rfl,b3⟩,⟨_,_,rfl,rfl,⟨_,_,rfl,rfl,⟨_,_,rfl,rfl,rfl⟩⟩⟩⟩⟩⟩⟩:=hx_r_
 refine enter 78 [.agg (BO p r_ s q u x y),.c (.int .i64 late)] Try.func61 rfl rfl rfl rfl fun t hk=>?_
 have hm:=Ah.begin h w hh
 unfold Jv at H
 refine XT (Aa (wl fun K hK=>?_))
 refine wb (.agg (BO p r_ s q u x y)) hk hm fun d h8 i4 (fp:Kn 78 [(d,0)] [tP 2 0 0,tA 0 (BO p r_ s q u x y),tI 1 late] h8) (hf:Ah ⟨w,h,Aj⟩ h [(d,0)] [⟨BO p r_ s q u x y,some 28⟩] [] i4)=>hK _ _ ?_
 refine wl fun K hK=>?_
 refine wa Ds fp hf fun e ey i8 (fz:Kn 78 [(d,0),(e,0)] [tP 4 1 0,tP 2 0 0,tA 0 (BO p r_ s q u x y),tI 1 late] ey) (hg:Ah ⟨w,h,Aj⟩ h [(d,0),(e,0)] [⟨BO p r_ s q u x y,some 28⟩,⟨Ds,some 75⟩] [] i8)=>hK _ _ ?_
 have f5:Kn 78 [(d,0),(e,0)] [tP 4 1 0,tP 2 0 0,tI 1 late] ey:=fz.kp
 refine wf (XT (Aa (wl fun K hK=>?_)))
 refine wa Ds f5 hg fun f ij cr (f9:Kn 78 [(d,0),(e,0),(f,0)] [tP 5 2 0,tP 4 1 0,tP 2 0 0,tI 1 late] ij) (el:Ah ⟨w,h,Aj⟩ h [(d,0),(e,0),(f,0)] [⟨BO p r_ s q u x y,some 28⟩,⟨Ds,some 75⟩,⟨Ds,some 75⟩] [] cr)=>hK _ _ ?_
 refine wf (XT (XT (Aa (Rk 0 1 [tI 6 0,tP 5 2 0,tP 4 1 0,tP 2 0 0,tI 1 late] f9 el fun j0 gi=>?_))))
 refine wf ?_
 have hn:Ah ⟨w,h,Aj⟩ h [(d,0),(e,0),(f,0)] [⟨BO p r_ s q u x y,some 28⟩,⟨Ds,some 75⟩,⟨Ds,some 75⟩] [⟨none,0,0,3,1,[],0⟩] cr:=el.nilRow 3 1
 have e9:Ag h ([]:List Int) []:=Ag.nil
 have hp:Ah ⟨w,h,Aj⟩ h [(d,0),(e,0),(f,0)] [⟨BO p r_ s q u x y,some 28⟩,⟨Ds,some 75⟩,⟨Ds,some 75⟩] [⟨none,0,0,3,1,[],0⟩,⟨none,0,0,3,1,[],0⟩] cr:=hn.nilRow 3 1
 have fc:Ag h ([]:List Int) []:=Ag.nil
 have hq:Ah ⟨w,h,Aj⟩ h [(d,0),(e,0),(f,0)] [⟨BO p r_ s q u x y,some 28⟩,⟨Ds,some 75⟩,⟨Ds,some 75⟩] [⟨none,0,0,3,1,[],0⟩,⟨none,0,0,3,1,[],0⟩,⟨none,0,0,31,1,[],0⟩] cr:=hp.nilRow 31 1
 have fd:Ag h ([]:List (List Int)) []:=Ag.nil
 obtain⟨ab,d1,H⟩:=Aq H
 refine Av (fun a' w'=>∃ (al:Option Addr)(ao:Nat)(a4:List Value)(am:Option Addr)(ap:Nat)(ba:List Value)(an:Option Addr)(aq:Nat)(bh:List Value)(dy:Array Value)(bk:Ae),a' = ⟨dy,[]⟩∧Kn 78 [(d,0),(e,0),(f,0)] [tP 5 2 0,tP 4 1 0] dy∧Ah ⟨w,h,Aj⟩ bk [(d,0),(e,0),(f,0)] [⟨BO p r_ s q u x y,some 28⟩,⟨Ds,some 75⟩,⟨FU al ab ao am ap an aq,some 75⟩] [⟨al,ab.1.length,ao,3,1,a4,0⟩,⟨am,ab.2.1.length,ap,3,1,ba,0⟩,⟨an,ab.2.2.length,aq,31,1,bh,0⟩] w'∧Ae.le h bk∧Ag bk ab.1 a4∧Ag bk ab.2.1 ba∧Ag bk ab.2.2 bh) ?_ ?_
 ·
  refine wp_block ?_
  refine Ar (fun h6 a' w'=>∃ (x_v10:List Int)(x_v11:List Int)(x_v12:List (List Int))(x_v13:Int)(g:Option Addr)(k:Nat)(ah:List Value)(a:Option Addr)(b:Nat)(af:List Value)(ai:Option Addr)(aj:Nat)(ag:List Value)(dz:Array Value)(a3:Ae),a' = ⟨dz,[]⟩∧Kn 78 [(d,0),(e,0),(f,0)] (GZ x_v13 late) dz∧Ah ⟨w,h,Aj⟩ a3 [(d,0),(e,0),(f,0)] [⟨BO p r_ s q u x y,some 28⟩,⟨Ds,some 75⟩,⟨K8 g x_v10 k a x_v11 b ai x_v12 aj,some 75⟩] [⟨g,x_v10.length,k,3,1,ah,0⟩,⟨a,x_v11.length,b,3,1,af,0⟩,⟨ai,x_v12.length,aj,31,1,ag,0⟩] w'∧Ae.le h a3∧Ag a3 x_v10 ah∧Ag a3 x_v11 af∧Ag a3 x_v12 ag∧DJ h6 r_ late x_v10 x_v11 x_v12 x_v13=some ab) n ?_ ?_
  ·
   exact XY ([]:List Int) ⟨([]:List Int),([]:List (List Int)),0,none,0,[],none,0,[],none,0,[],_,_,rfl,gi.kp,hq,Ae.le_refl _,e9,fc,fd,d1⟩
  ·
   rintro bf _ jj ⟨x_v10,x_v11,x_v12,x_v13,g,k,ah,a,b,af,ai,aj,ag,dz,a3,rfl,g1,bl,b0,a0,a6,bz,ak⟩
   clear d1
   obtain _ | bf:=bf
   ·
    rw [DJ] at ak; cases ak
   rw [DJ] at ak
   replace bm:=bm.mono b0
   replace bn:=bn.mono b0
   replace b3:=b3.mono b0
   refine XT (XT (Aa (Rk 0 9 ((tB 18 (decide (x_v13<(IntKind.i64.wrap (((r_.buses.length:Nat):Int)+((r_.spares.length:Nat):Int))))))::(GZ x_v13 late)) g1 bl fun j5 c9=>?_)))
   refine wf (wC (decide (x_v13<(IntKind.i64.wrap (((r_.buses.length:Nat):Int)+((r_.spares.length:Nat):Int))))) c9 (fun cy=>?_) (fun cy=>?_))
   ·
    rw [cy,XW] at ak
    refine wp_skip (XT (wp_block (XT (Aa (Rk 0 3 ((23,.one (.c (.int .u64 (IntKind.u64.wrap x_v13))))::(tI 21 late)::(GZ x_v13 late)) c9 bl fun j6 g2=>?_)))))
    obtain⟨x24,ex24,ak⟩:=Aq ak
    refine UV 3 g2 rfl rfl (rfl) rfl (by decide) (by rfl) (by rfl) (QM ex24) fun i2 (g3:Kn 78 [(d,0),(e,0),(f,0)] ((tI 24 (Int.fdiv late (2 ^ (min (IntKind.u64.wrap x_v13:Int).toNat 64))))::(23,.one (.c (.int .u64 (IntKind.u64.wrap x_v13))))::(tI 21 late)::(GZ x_v13 late)) i2)=>?_
    refine Rk 4 3 (DY late x_v13) g3 bl fun j7 g4=>?_
    refine wf (XT (Aa (Rk 0 1 ((tS 8 none 0 0)::(DY late x_v13)) g4 bl fun j8 g5=>?_)))
    refine wf (XT (XT (Aa (Rk 0 1 ((tI 9 0)::(tS 8 none 0 0)::(DY late x_v13)) g5 bl fun j9 g6=>?_))))
    refine wf ?_
    have hr:Ah ⟨w,h,Aj⟩ a3 [(d,0),(e,0),(f,0)] [⟨BO p r_ s q u x y,some 28⟩,⟨Ds,some 75⟩,⟨K8 g x_v10 k a x_v11 b ai x_v12 aj,some 75⟩] [⟨g,x_v10.length,k,3,1,ah,0⟩,⟨a,x_v11.length,b,3,1,af,0⟩,⟨ai,x_v12.length,aj,31,1,ag,0⟩,⟨none,0,0,3,1,[],0⟩] jj:=bl.nilRow 3 1
    have ff:Ag a3 ([]:List Int) []:=Ag.nil
    obtain⟨l,d2,ak⟩:=Aq ak
    refine Av (fun a' w'=>∃ (m:Option Addr)(o:Nat)(ae:List Value)(d0:Array Value)(cg:Ae),a' = ⟨d0,[]⟩∧Kn 78 [(d,0),(e,0),(f,0)] ((tS 8 m l.length o)::(DY late x_v13)) d0∧Ah ⟨w,h,Aj⟩ cg [(d,0),(e,0),(f,0)] [⟨BO p r_ s q u x y,some 28⟩,⟨Ds,some 75⟩,⟨K8 g x_v10 k a x_v11 b ai x_v12 aj,some 75⟩] [⟨g,x_v10.length,k,3,1,ah,0⟩,⟨a,x_v11.length,b,3,1,af,0⟩,⟨ai,x_v12.length,aj,31,1,ag,0⟩,⟨m,l.length,o,3,1,ae,0⟩] w'∧Ae.le a3 cg∧Ag cg l ae) ?_ ?_
    ·
     refine wp_block ?_
     refine Ar (fun h7 a' w'=>∃ (x_v20:List Int)(x_v21:Int)(ax:Option Addr)(ay:Nat)(bb:List Value)(du:Array Value)(bu:Ae),a' = ⟨du,[]⟩∧Kn 78 [(d,0),(e,0),(f,0)] ((tI 9 x_v21)::(tS 8 ax x_v20.length ay)::(DY late x_v13)) du∧Ah ⟨w,h,Aj⟩ bu [(d,0),(e,0),(f,0)] [⟨BO p r_ s q u x y,some 28⟩,⟨Ds,some 75⟩,⟨K8 g x_v10 k a x_v11 b ai x_v12 aj,some 75⟩] [⟨g,x_v10.length,k,3,1,ah,0⟩,⟨a,x_v11.length,b,3,1,af,0⟩,⟨ai,x_v12.length,aj,31,1,ag,0⟩,⟨ax,x_v20.length,ay,3,1,bb,0⟩] w'∧Ae.le a3 bu∧Ag bu x_v20 bb∧Ev h7 r_ late x_v13 x_v20 x_v21=some l) bf ?_ ?_
     ·
      exact XY ([]:List Int) ⟨0,none,0,[],_,_,rfl,g6.kp,hr,Ae.le_refl _,ff,d2⟩
     ·
      rintro cp _ i3 ⟨x_v20,x_v21,ax,ay,bb,du,bu,rfl,fl,cm,bc,cj,az⟩
      clear d2
      obtain _ | cp:=cp
      ·
       rw [Ev] at az; cases az
      rw [Ev] at az
      replace bm:=bm.mono bc
      replace bn:=bn.mono bc
      replace b3:=b3.mono bc
      replace a0:=a0.mono bc
      replace a6:=a6.mono bc
      replace bz:=bz.mono bc
      refine XT (XT (Aa (Rk 0 5 ((tB 31 (decide (x_v21<((r_.legs.length:Nat):Int))))::(tI 9 x_v21)::(tS 8 ax x_v20.length ay)::(DY late x_v13)) fl cm fun jr c7=>?_)))
      refine wf (wC (decide (x_v21<((r_.legs.length:Nat):Int))) c7 (fun cw=>?_) (fun cw=>?_))
      ·
       rw [cw,XW] at az
       refine wp_skip (XT (wp_block (Aa (Rk 0 4 ((tI 37 x_v21)::(tS 36 p r_.legs.length s)::(tS 34 ax x_v20.length ay)::(tI 9 x_v21)::(DY late x_v13)) c7 cm fun js fm=>?_))))
       obtain⟨x38,ex38,az⟩:=Aq az
       obtain⟨hs,hu,h4⟩:=Ai ex38
       obtain⟨a5,a8,jk,e3,h2,e5⟩:=bm.get (by decide) h4
       obtain⟨_,_,rfl,rfl,rfl⟩:=h2
       have de:Ah ⟨w,h,Aj⟩ bu (On d e f a5 a8 x_v21) [⟨BO p r_ s q u x y,some 28⟩,⟨Ds,some 75⟩,⟨K8 g x_v10 k a x_v11 b ai x_v12 aj,some 75⟩,⟨P6 x38,none⟩] [⟨g,x_v10.length,k,3,1,ah,0⟩,⟨a,x_v11.length,b,3,1,af,0⟩,⟨ai,x_v12.length,aj,31,1,ag,0⟩,⟨ax,x_v20.length,ay,3,1,bb,0⟩] i3:=cm.addPlc (cs:=(P6 x38)) (fun j c hj=>e5 j _ (Al hj)) rfl (by kernel_rfl) (by kernel_rfl)
       refine Bc 4 (x_v21) rfl rfl (rfl) rfl (by decide) fm (by rfl) (by rfl) (by rfl) e3 (by rfl) hs hu (by kernel_rfl) fun h9 (fn:Kn 78 (On d e f a5 a8 x_v21) ((tP 38 3 0)::(tI 37 x_v21)::(tS 36 p r_.legs.length s)::(tS 34 ax x_v20.length ay)::(tI 9 x_v21)::(DY late x_v13)) h9)=>?_
       refine Rk 5 2 (Qn late x_v13 x38 ax x_v20 ay x_v21) fn de fun jt fo=>?_
       obtain⟨x41,ex41,az⟩:=Aq az
       refine wl fun K hK=>?_
       refine wc [.agg (P6 x38),.c (.bool ((Int.tmod (Int.fdiv late (2 ^ (min (IntKind.u64.wrap x_v13:Int).toNat 64))) 2) == 1))] fo de (I0 cp de.has x38 ((Ab Ac Ac):rep bu x38 _) ((Int.tmod (Int.fdiv late (2 ^ (min (IntKind.u64.wrap x_v13:Int).toNat 64))) 2) == 1) ex41) fun ka b8 ke ez ed he=>?_
       replace cj:=cj.mono ed
       obtain rfl:=ez
       refine⟨.one (.c (.int .i64 x41)),rfl,fun ia (fq:Kn 78 (On d e f a5 a8 x_v21) ((tI 41 x41)::(Qn late x_v13 x38 ax x_v20 ay x_v21)) ia)=>hK _ _ ?_⟩
       refine wl fun K hK=>?_
       refine wS 3 1 [.int .i64 x41] fq he fun cd ib i5 (fs:Kn 78 (On d e f a5 a8 x_v21) ((tS 42 cd 1 1)::(tI 41 x41)::(Qn late x_v13 x38 ax x_v20 ay x_v21)) ib) (ef:Ah ⟨w,h,Aj⟩ b8 (On d e f a5 a8 x_v21) [⟨BO p r_ s q u x y,some 28⟩,⟨Ds,some 75⟩,⟨K8 g x_v10 k a x_v11 b ai x_v12 aj,some 75⟩,⟨P6 x38,none⟩] [⟨g,x_v10.length,k,3,1,ah,0⟩,⟨a,x_v11.length,b,3,1,af,0⟩,⟨ai,x_v12.length,aj,31,1,ag,0⟩,⟨ax,x_v20.length,ay,3,1,bb,0⟩,⟨cd,1,1,3,1,([.int .i64 x41]:List Value),0⟩] i5)=>?_
       have cz:Ag b8 ([x41]:List Int) ([.int .i64 x41]:List Value):=⟨_,_,rfl,(Ac:rep b8 (x41:Int) _),rfl⟩
       refine hK _ _ ?_
       obtain⟨x43,ex43,az⟩:=Aq az
       obtain⟨dp,g7⟩:=A8 ex43
       refine wl fun K hK=>?_
       refine A3 3 8 1 _ (x43.length) _ ([.int .i64 x41]:List Value) fs ef rfl rfl (by decide) rfl (by rfl) (by kernel_rfl) (by rfl) (by rfl) (Ag.len cz) (ef.rowCell (i:=4) rfl) cz.one (by rw [dp]; simp) (by rw [dp]; exact g7) (by decide) fun b4 b6 d3 ic i6 fg (ft:Kn 78 (On d e f a5 a8 x_v21) ((tS 43 b4 x43.length b6)::(tS 42 cd 1 1)::(tI 41 x41)::(Qn late x_v13 x38 ax x_v20 ay x_v21)) ic) (df:Ah ⟨w,h,Aj⟩ b8 (On d e f a5 a8 x_v21) [⟨BO p r_ s q u x y,some 28⟩,⟨Ds,some 75⟩,⟨K8 g x_v10 k a x_v11 b ai x_v12 aj,some 75⟩,⟨P6 x38,none⟩] [⟨g,x_v10.length,k,3,1,ah,0⟩,⟨a,x_v11.length,b,3,1,af,0⟩,⟨ai,x_v12.length,aj,31,1,ag,0⟩,⟨b4,x43.length,b6,3,1,bb++([.int .i64 x41]:List Value),d3⟩,⟨cd,1,1,3,1,([.int .i64 x41]:List Value),0⟩] i6)=>?_
       have e6:Ag b8 x43 (bb++([.int .i64 x41]:List Value)):=by rw [dp]; exact Ag.append cj cz
       obtain rfl:d3=0:=Nat.le_zero.1 fg
       refine hK _ _ ?_
       refine Rk 10 1 ((tS 8 b4 x43.length b6)::(tI 9 x_v21)::(DY late x_v13)) ft df fun ju fu=>?_
       refine wf (Aa (Rk 0 3 ((tI 9 (IntKind.i64.wrap (x_v21+1)))::(tS 8 b4 x43.length b6)::(DY late x_v13)) fu df fun jv fv=>?_))
       refine wf ?_
       exact XY cp ⟨Nat.lt_succ_self _,XY x43 ⟨IntKind.i64.wrap (x_v21+1),b4,b6,bb++([.int .i64 x41]:List Value),_,_,rfl,(fv.keep [9,8,7,6,5,4,2,1] (by rfl)).cut 3 (by kernel_rfl),(df.cutRw 4).cutPl 3 (by kernel_rfl),XU bc ed,e6,az⟩⟩
      ·
       rw [cw,XV] at az
       refine wp_exit ?_
       obtain rfl:=XZ az
       exact XY ax ⟨ay,bb,_,_,rfl,c7.kp,cm,bc,cj⟩
    ·
     rintro _ i7 ⟨m,o,ae,d0,cg,rfl,fw,dg,bd,c6⟩
     refine XT (Aa (Rk 0 3 ((tS 46 m l.length o)::(tS 45 ai x_v12.length aj)::(DY late x_v13)) fw dg fun jw fx=>?_))
     obtain⟨aw,a7,hy,dh⟩:=dg.settle (i:=3) rfl
     replace bm:=bm.mono (XU bd a7)
     replace bn:=bn.mono (XU bd a7)
     replace b3:=b3.mono (XU bd a7)
     replace a0:=a0.mono (XU bd a7)
     replace a6:=a6.mono (XU bd a7)
     replace bz:=bz.mono (XU bd a7)
     replace c6:=c6.mono a7
     replace dh:Ah ⟨w,h,Aj⟩ aw [(d,0),(e,0),(f,0)] [⟨BO p r_ s q u x y,some 28⟩,⟨Ds,some 75⟩,⟨K8 g x_v10 k a x_v11 b ai x_v12 aj,some 75⟩] [⟨g,x_v10.length,k,3,1,ah,0⟩,⟨a,x_v11.length,b,3,1,af,0⟩,⟨ai,x_v12.length,aj,31,1,ag,0⟩,⟨m,l.length,o,3,1,ae,(ae:List Value).length⟩] i7:=dh
     have hw:A6 aw m o l:=⟨_,c6,hy,dg.rowCap (i:=3) rfl⟩
     refine wl fun K hK=>?_
     refine wS 31 1 [.slice m l.length o] fx dh fun av ie i9 (fy:Kn 78 [(d,0),(e,0),(f,0)] ((tS 47 av 1 1)::(tS 46 m l.length o)::(tS 45 ai x_v12.length aj)::(DY late x_v13)) ie) (eg:Ah ⟨w,h,Aj⟩ aw [(d,0),(e,0),(f,0)] [⟨BO p r_ s q u x y,some 28⟩,⟨Ds,some 75⟩,⟨K8 g x_v10 k a x_v11 b ai x_v12 aj,some 75⟩] [⟨g,x_v10.length,k,3,1,ah,0⟩,⟨a,x_v11.length,b,3,1,af,0⟩,⟨ai,x_v12.length,aj,31,1,ag,0⟩,⟨m,l.length,o,3,1,ae,(ae:List Value).length⟩,⟨av,1,1,31,1,([.slice m l.length o]:List Value),0⟩] i9)=>?_
     have c0:Ag aw ([l]:List (List Int)) ([.slice m l.length o]:List Value):=⟨_,_,rfl,((Ad hw):rep aw (l:List Int) _),rfl⟩
     refine hK _ _ ?_
     obtain⟨x48,ex48,ak⟩:=Aq ak
     obtain⟨dq,g8⟩:=A8 ex48
     refine wl fun K hK=>?_
     refine A3 2 24 1 _ (x48.length) _ ([.slice m l.length o]:List Value) fy eg rfl rfl (by decide) rfl (by rfl) (by kernel_rfl) (by rfl) (by rfl) (Ag.len c0) (eg.rowCell (i:=4) rfl) c0.one (by rw [dq]; simp) (by rw [dq]; exact g8) (by decide) fun z aa d4 ig ja fh (f0:Kn 78 [(d,0),(e,0),(f,0)] ((tS 48 z x48.length aa)::(tS 47 av 1 1)::(tS 46 m l.length o)::(tS 45 ai x_v12.length aj)::(DY late x_v13)) ig) (eh:Ah ⟨w,h,Aj⟩ aw [(d,0),(e,0),(f,0)] [⟨BO p r_ s q u x y,some 28⟩,⟨Ds,some 75⟩,⟨K8 g x_v10 k a x_v11 b ai x_v12 aj,some 75⟩] [⟨g,x_v10.length,k,3,1,ah,0⟩,⟨a,x_v11.length,b,3,1,af,0⟩,⟨z,x48.length,aa,31,1,ag++([.slice m l.length o]:List Value),d4⟩,⟨m,l.length,o,3,1,ae,(ae:List Value).length⟩,⟨av,1,1,31,1,([.slice m l.length o]:List Value),0⟩] ja)=>?_
     have ch:Ag aw x48 (ag++([.slice m l.length o]:List Value)):=by rw [dq]; exact Ag.append bz c0
     obtain rfl:d4=0:=Nat.le_zero.1 fh
     refine hK _ _ ?_
     refine Rk 5 1 ((tP 49 2 2)::(tS 48 z x48.length aa)::(DY late x_v13)) f0 eh fun ih f1=>?_
     refine wl fun K hK=>?_
     refine G2 2 2 (.c (.slice z x48.length aa)) (S5 g x_v10 k a x_v11 b z x48 aa) f1 eh fun cq f2 (be:Ah ⟨w,h,Aj⟩ aw [(d,0),(e,0),(f,0)] [⟨BO p r_ s q u x y,some 28⟩,⟨Ds,some 75⟩,⟨S5 g x_v10 k a x_v11 b z x48 aa,some 75⟩] [⟨g,x_v10.length,k,3,1,ah,0⟩,⟨a,x_v11.length,b,3,1,af,0⟩,⟨z,x48.length,aa,31,1,ag++([.slice m l.length o]:List Value),0⟩,⟨m,l.length,o,3,1,ae,(ae:List Value).length⟩,⟨av,1,1,31,1,([.slice m l.length o]:List Value),0⟩] cq)=>hK _ _ ?_
     have f3:Kn 78 [(d,0),(e,0),(f,0)] (DY late x_v13) ih:=f2.kp
     refine wf (XT (Aa (Rk 0 5 ((tB 54 (decide (x_v13<((r_.buses.length:Nat):Int))))::(DY late x_v13)) f3 be fun jx c8=>?_)))
     refine wf (wC (decide (x_v13<((r_.buses.length:Nat):Int))) c8 (fun cx=>?_) (fun cx=>?_))
     ·
      rw [cx,XW] at ak
      refine An (by kernel_rfl) ?_
      replace be:=be.drew
      refine Ao [15] [(d,0),(e,0),(f,0)] [⟨BO p r_ s q u x y,some 28⟩,⟨Ds,some 75⟩,⟨S5 g x_v10 k a x_v11 b z x48 aa,some 75⟩] ?_
      refine Dr [0,1,2,3,4] (dn 4) ((tI 59 x_v13)::(tS 58 q r_.buses.length u)::(tS 56 g x_v10.length k)::(DY late x_v13)) c8 be fun jy f4=>?_
      obtain⟨x60,ex60,ak⟩:=Aq ak
      obtain⟨ht,hv,h5⟩:=Ai ex60
      obtain⟨ac,ad,jl,e4,h3,e7⟩:=bn.get (by decide) h5
      obtain⟨_,_,rfl,rfl,⟨_,_,rfl,rfl,rfl⟩⟩:=h3
      have ei:Ah ⟨w,h,Aj⟩ aw (Cn d e f ac ad x_v13) (EZ p r_ s q u x y g x_v10 k a x_v11 b z x48 aa x60) [⟨g,x_v10.length,k,3,1,ah,0⟩,⟨a,x_v11.length,b,3,1,af,0⟩,⟨z,x48.length,aa,31,1,ag++([.slice m l.length o]:List Value),0⟩,⟨m,l.length,o,3,1,ae,(ae:List Value).length⟩,⟨av,1,1,31,1,([.slice m l.length o]:List Value),0⟩] (World.drew cq):=be.addPlc (cs:=(Om x60)) (fun j c hj=>e7 j _ (Al hj)) rfl (by kernel_rfl) (by kernel_rfl)
      refine Ax 5 (x_v13) (Om x60) (fun _ _ _ _ _ h=>h) rfl rfl (rfl) rfl (by decide) (by kernel_rfl) (by kernel_rfl) f4 be.plOk (by rfl) (by rfl) (by rfl) e4 (by rfl) ht hv (by kernel_rfl) fun ii (f6:Kn 78 (Cn d e f ac ad x_v13) ((tP 60 3 0)::(tI 59 x_v13)::(tS 58 q r_.buses.length u)::(tS 56 g x_v10.length k)::(DY late x_v13)) ii)=>?_
      refine Dr [6,7,8,12,13,14,16] [16,14,13,12,8,7,6,5,4,3,2,1,0] (JG late x_v13 a x_v11 b x60 g x_v10 k) f6 ei fun jz ea=>?_
      obtain⟨x64,ex64,ak⟩:=Aq ak
      obtain⟨x66,ex66,ak⟩:=Aq ak
      obtain⟨x72,ex72,ak⟩:=Aq ak
      obtain⟨x74,ex74,ak⟩:=Aq ak
      have hl:Ah ⟨w,h,Aj⟩ aw (Cn d e f ac ad x_v13) (EZ p r_ s q u x y g x_v10 k a x_v11 b z x48 aa x60) [⟨g,x_v10.length,k,3,1,ah,0⟩,⟨a,x_v11.length,b,3,1,af,0⟩,⟨z,x48.length,aa,31,1,ag++([.slice m l.length o]:List Value),0⟩,⟨m,l.length,o,3,1,ae,(ae:List Value).length⟩,⟨av,1,1,31,1,([.slice m l.length o]:List Value),0⟩,⟨none,0,0,3,1,[],0⟩] (World.drew cq):=ei.nilRow 3 1
      have jn:Ag aw ([]:List Int) []:=Ag.nil
      have b1:Ah ⟨w,h,Aj⟩ aw (Cn d e f ac ad x_v13) (EZ p r_ s q u x y g x_v10 k a x_v11 b z x48 aa x60) [⟨g,x_v10.length,k,3,1,ah,0⟩,⟨a,x_v11.length,b,3,1,af,0⟩,⟨z,x48.length,aa,31,1,ag++([.slice m l.length o]:List Value),0⟩,⟨m,l.length,o,3,1,ae,(ae:List Value).length⟩,⟨av,1,1,31,1,([.slice m l.length o]:List Value),0⟩,⟨none,0,0,3,1,[],0⟩,⟨none,0,0,3,1,[],0⟩] (World.drew cq):=hl.nilRow 3 1
      have jo:Ag aw ([]:List Int) []:=Ag.nil
      refine Cl (fun W=>∀ (ar:Option Addr),∀ (au:Nat),∀ (bg:List Value),∀ (bp:Option Addr),∀ (bs:Nat),∀ (bo:List Value),∀ a' w',(∃ (dv:Array Value)(bv:Ae),a' = ⟨dv,[]⟩∧Kn 78 (Cn d e f ac ad x_v13) (Qm r_ ar x66 au late x_v13 a x_v11 b) dv∧Ah ⟨w,h,Aj⟩ bv (Cn d e f ac ad x_v13) (EZ p r_ s q u x y g x_v10 k a x_v11 b z x48 aa x60) [⟨ar,x66.length,au,3,1,bg,0⟩,⟨a,x_v11.length,b,3,1,af,0⟩,⟨z,x48.length,aa,31,1,ag++([.slice m l.length o]:List Value),0⟩,⟨m,l.length,o,3,1,ae,(ae:List Value).length⟩,⟨av,1,1,31,1,([.slice m l.length o]:List Value),0⟩,⟨bp,1,bs,3,1,bo,0⟩,⟨none,0,0,3,1,[],0⟩] w'∧Ae.le aw bv∧Ag bv x66 bg∧Ag bv ([x64]:List Int) bo)→W (Cn d e f ac ad x_v13) (EZ p r_ s q u x y g x_v10 k a x_v11 b z x48 aa x60) [20,11,10,9,15,16,14,13,12,8,7,6,5,4,3,2,1,0] a' w') ?_ (fun ev=>?_)
      ·
       intro ar au bg bp bs bo
       rintro _ kf ⟨dv,bv,rfl,f7,ej,da,c1,jp⟩
       refine Dl 17 fun K hK=>?_
       refine wc [.agg (IS r_),.c (.bool ((Int.tmod (Int.fdiv late (2 ^ (min (IntKind.u64.wrap x_v13:Int).toNat 64))) 2) == 1))] f7 ej (I0 bf ej.has r_.turn ((Ab Ac Ac):rep bv r_.turn _) ((Int.tmod (Int.fdiv late (2 ^ (min (IntKind.u64.wrap x_v13:Int).toNat 64))) 2) == 1) ex72) fun kb bj kg e0 ck ek=>?_
       replace c1:=c1.mono ck
       replace a6:=a6.mono (XU da ck)
       replace ch:=ch.mono (XU da ck)
       obtain rfl:=e0
       refine⟨.one (.c (.int .i64 x72)),rfl,fun ik (f8:Kn 78 (Cn d e f ac ad x_v13) ((tI 72 x72)::(Qm r_ ar x66 au late x_v13 a x_v11 b)) ik)=>hK _ _ ek.plOk ?_⟩
       refine Dl 18 fun K hK=>?_
       refine By 6 rfl rfl 3 1 [.int .i64 x72] f8 ek rfl rfl (by decide) (by kernel_rfl) (by rfl) (by rfl) rfl (by decide) fun bq il jb (ga:Kn 78 (Cn d e f ac ad x_v13) ((tS 73 bq 1 1)::(tI 72 x72)::(Qm r_ ar x66 au late x_v13 a x_v11 b)) il) (di:Ah ⟨w,h,Aj⟩ bj (Cn d e f ac ad x_v13) (EZ p r_ s q u x y g x_v10 k a x_v11 b z x48 aa x60) [⟨ar,x66.length,au,3,1,bg,0⟩,⟨a,x_v11.length,b,3,1,af,0⟩,⟨z,x48.length,aa,31,1,ag++([.slice m l.length o]:List Value),0⟩,⟨m,l.length,o,3,1,ae,(ae:List Value).length⟩,⟨av,1,1,31,1,([.slice m l.length o]:List Value),0⟩,⟨bp,1,bs,3,1,bo,0⟩,⟨bq,1,1,3,1,([.int .i64 x72]:List Value),0⟩] jb)=>?_
       have c2:Ag bj ([x72]:List Int) ([.int .i64 x72]:List Value):=⟨_,_,rfl,(Ac:rep bj (x72:Int) _),rfl⟩
       refine hK _ _ di.plOk ?_
       refine Dl 19 fun K hK=>?_
       obtain⟨dr,g9⟩:=A8 ex74
       refine A3 1 8 1 _ (x74.length) _ ([.int .i64 x72]:List Value) ga di rfl rfl (by decide) rfl (by rfl) (by kernel_rfl) (by rfl) (by rfl) (Ag.len c2) (di.rowCell (i:=6) rfl) c2.one (by rw [dr]; simp) (by rw [dr]; exact g9) (by decide) fun a1 a2 d5 im jc fi (gb:Kn 78 (Cn d e f ac ad x_v13) ((tS 74 a1 x74.length a2)::(tS 73 bq 1 1)::(tI 72 x72)::(Qm r_ ar x66 au late x_v13 a x_v11 b)) im) (em:Ah ⟨w,h,Aj⟩ bj (Cn d e f ac ad x_v13) (EZ p r_ s q u x y g x_v10 k a x_v11 b z x48 aa x60) [⟨ar,x66.length,au,3,1,bg,0⟩,⟨a1,x74.length,a2,3,1,af++([.int .i64 x72]:List Value),d5⟩,⟨z,x48.length,aa,31,1,ag++([.slice m l.length o]:List Value),0⟩,⟨m,l.length,o,3,1,ae,(ae:List Value).length⟩,⟨av,1,1,31,1,([.slice m l.length o]:List Value),0⟩,⟨bp,1,bs,3,1,bo,0⟩,⟨bq,1,1,3,1,([.int .i64 x72]:List Value),0⟩] jc)=>?_
       have e8:Ag bj x74 (af++([.int .i64 x72]:List Value)):=by rw [dr]; exact Ag.append a6 c2
       obtain rfl:d5=0:=Nat.le_zero.1 fi
       refine hK _ _ em.plOk ?_
       refine D8 21 rfl (by kernel_rfl) (by decide) (rfl) (by kernel_rfl) fun K hK=>?_
       refine G2 2 0 (.c (.slice ar x66.length au)) [.slice ar x66.length au,.slice a x_v11.length b,.slice z x48.length aa] gb em fun jd gc (en:Ah ⟨w,h,Aj⟩ bj (Cn d e f ac ad x_v13) [⟨BO p r_ s q u x y,some 28⟩,⟨Ds,some 75⟩,⟨[.slice ar x66.length au,.slice a x_v11.length b,.slice z x48.length aa],some 75⟩,⟨Om x60,none⟩] [⟨ar,x66.length,au,3,1,bg,0⟩,⟨a1,x74.length,a2,3,1,af++([.int .i64 x72]:List Value),0⟩,⟨z,x48.length,aa,31,1,ag++([.slice m l.length o]:List Value),0⟩,⟨m,l.length,o,3,1,ae,(ae:List Value).length⟩,⟨av,1,1,31,1,([.slice m l.length o]:List Value),0⟩,⟨bp,1,bs,3,1,bo,0⟩,⟨bq,1,1,3,1,([.int .i64 x72]:List Value),0⟩] jd)=>hK _ _ ?_
       refine Ao [15] (Cn d e f ac ad x_v13) [⟨BO p r_ s q u x y,some 28⟩,⟨Ds,some 75⟩,⟨[.slice ar x66.length au,.slice a x_v11.length b,.slice z x48.length aa],some 75⟩,⟨Om x60,none⟩] ?_
       refine Dr [22] [22,21,19,18,17,20,11,10,9,15,16,14,13,12,8,7,6,5,4,3,2,1,0] ((tP 76 2 1)::(tS 74 a1 x74.length a2)::(GZ x_v13 late)) gc en fun io gd=>?_
       refine D8 23 rfl (by kernel_rfl) (by decide) (rfl) (by kernel_rfl) fun K hK=>?_
       refine G2 2 1 (.c (.slice a1 x74.length a2)) [.slice ar x66.length au,.slice a1 x74.length a2,.slice z x48.length aa] gd en fun je gf (eo:Ah ⟨w,h,Aj⟩ bj (Cn d e f ac ad x_v13) [⟨BO p r_ s q u x y,some 28⟩,⟨Ds,some 75⟩,⟨[.slice ar x66.length au,.slice a1 x74.length a2,.slice z x48.length aa],some 75⟩,⟨Om x60,none⟩] [⟨ar,x66.length,au,3,1,bg,0⟩,⟨a1,x74.length,a2,3,1,af++([.int .i64 x72]:List Value),0⟩,⟨z,x48.length,aa,31,1,ag++([.slice m l.length o]:List Value),0⟩,⟨m,l.length,o,3,1,ae,(ae:List Value).length⟩,⟨av,1,1,31,1,([.slice m l.length o]:List Value),0⟩,⟨bp,1,bs,3,1,bo,0⟩,⟨bq,1,1,3,1,([.int .i64 x72]:List Value),0⟩] je)=>hK _ _ ?_
       refine Ao [15] (Cn d e f ac ad x_v13) [⟨BO p r_ s q u x y,some 28⟩,⟨Ds,some 75⟩,⟨[.slice ar x66.length au,.slice a1 x74.length a2,.slice z x48.length aa],some 75⟩,⟨Om x60,none⟩] ?_
       have gg:Kn 78 (Cn d e f ac ad x_v13) (GZ x_v13 late) io:=gf.kp
       refine Ay (by kernel_rfl) (Aa (Rk 0 3 [tI 6 (IntKind.i64.wrap (x_v13+1)),tP 5 2 0,tP 4 1 0,tP 2 0 0,tI 1 late] gg eo fun j1 gh=>?_))
       refine wf ?_
       exact XY bf ⟨Nat.lt_succ_self _,XY x66 ⟨x74,x48,IntKind.i64.wrap (x_v13+1),ar,au,bg,a1,a2,af++([.int .i64 x72]:List Value),z,aa,ag++([.slice m l.length o]:List Value),_,_,rfl,(gh.keep [6,5,4,2,1] (by rfl)).cut 3 (by kernel_rfl),(eo.cutRw 3).cutPl 3 (by kernel_rfl),XU b0 (XU bd (XU a7 (XU da ck))),c1,e8,ch,ak⟩⟩
      refine Cl (fun W=>∀ (br:Option Addr),∀ (bt:Nat),∀ (a9:List Value),∀ a' w',(∃ (dw:Array Value)(bw:Ae),a' = ⟨dw,[]⟩∧Kn 78 (Cn d e f ac ad x_v13) ((tA 70 (IS r_))::(tS 65 br 1 bt)::(Qo late x_v13 a x_v11 b g x_v10 k)) dw∧Ah ⟨w,h,Aj⟩ bw (Cn d e f ac ad x_v13) (EZ p r_ s q u x y g x_v10 k a x_v11 b z x48 aa x60) [⟨g,x_v10.length,k,3,1,ah,0⟩,⟨a,x_v11.length,b,3,1,af,0⟩,⟨z,x48.length,aa,31,1,ag++([.slice m l.length o]:List Value),0⟩,⟨m,l.length,o,3,1,ae,(ae:List Value).length⟩,⟨av,1,1,31,1,([.slice m l.length o]:List Value),0⟩,⟨br,1,bt,3,1,a9,0⟩,⟨none,0,0,3,1,[],0⟩] w'∧Ae.le aw bw∧Ag bw ([x64]:List Int) a9)→W (Cn d e f ac ad x_v13) (EZ p r_ s q u x y g x_v10 k a x_v11 b z x48 aa x60) [10,9,15,16,14,13,12,8,7,6,5,4,3,2,1,0] a' w') ?_ (fun ew=>?_)
      ·
       intro br bt a9
       rintro _ kh ⟨dw,bw,rfl,gj,ep,ee,ci⟩
       replace a0:=a0.mono ee
       refine Dl 11 fun K hK=>?_
       obtain⟨ds,ha⟩:=A8 ex66
       refine A3 0 8 1 _ (x66.length) _ a9 gj ep rfl rfl (by decide) rfl (by rfl) (by kernel_rfl) (by rfl) (by rfl) (Ag.len ci) (ep.rowCell (i:=5) rfl) ci.one (by rw [ds]; simp) (by rw [ds]; exact ha) (by decide) fun ce cf d6 ip jf fj (gk:Kn 78 (Cn d e f ac ad x_v13) ((tS 66 ce x66.length cf)::(tA 70 (IS r_))::(tS 65 br 1 bt)::(Qo late x_v13 a x_v11 b g x_v10 k)) ip) (dj:Ah ⟨w,h,Aj⟩ bw (Cn d e f ac ad x_v13) (EZ p r_ s q u x y g x_v10 k a x_v11 b z x48 aa x60) [⟨ce,x66.length,cf,3,1,ah++a9,d6⟩,⟨a,x_v11.length,b,3,1,af,0⟩,⟨z,x48.length,aa,31,1,ag++([.slice m l.length o]:List Value),0⟩,⟨m,l.length,o,3,1,ae,(ae:List Value).length⟩,⟨av,1,1,31,1,([.slice m l.length o]:List Value),0⟩,⟨br,1,bt,3,1,a9,0⟩,⟨none,0,0,3,1,[],0⟩] jf)=>?_
       have fa:Ag bw x66 (ah++a9):=by rw [ds]; exact Ag.append a0 ci
       obtain rfl:d6=0:=Nat.le_zero.1 fj
       refine hK _ _ dj.plOk ?_
       refine Dr [20] [20,11,10,9,15,16,14,13,12,8,7,6,5,4,3,2,1,0] ((tP 75 2 0)::(tS 66 ce x66.length cf)::(tA 70 (IS r_))::(tB 71 ((Int.tmod (Int.fdiv late (2 ^ (min (IntKind.u64.wrap x_v13:Int).toNat 64))) 2) == 1))::(tS 68 a x_v11.length b)::(GZ x_v13 late)) gk dj fun j2 gl=>?_
       refine Bq [20,11,10,9,15,16,14,13,12,8,7,6,5,4,3,2,1,0] (by kernel_rfl) (by rfl) (ev ce cf (ah++a9) br bt a9 _ _ ?_)
       exact XY _ ⟨_,rfl,gl.kp,dj,ee,fa,ci⟩
      refine Cl (fun W=>∀ a' w',(∃ (dx:Array Value)(bx:Ae),a' = ⟨dx,[]⟩∧Kn 78 (Cn d e f ac ad x_v13) ((tA 70 (IS r_))::(tI 64 x64)::(Qo late x_v13 a x_v11 b g x_v10 k)) dx∧Ah ⟨w,h,Aj⟩ bx (Cn d e f ac ad x_v13) (EZ p r_ s q u x y g x_v10 k a x_v11 b z x48 aa x60) [⟨g,x_v10.length,k,3,1,ah,0⟩,⟨a,x_v11.length,b,3,1,af,0⟩,⟨z,x48.length,aa,31,1,ag++([.slice m l.length o]:List Value),0⟩,⟨m,l.length,o,3,1,ae,(ae:List Value).length⟩,⟨av,1,1,31,1,([.slice m l.length o]:List Value),0⟩,⟨none,0,0,3,1,[],0⟩,⟨none,0,0,3,1,[],0⟩] w'∧Ae.le aw bx)→W (Cn d e f ac ad x_v13) (EZ p r_ s q u x y g x_v10 k a x_v11 b z x48 aa x60) [9,15,16,14,13,12,8,7,6,5,4,3,2,1,0] a' w') ?_ (fun ex=>?_)
      ·
       rintro _ ki ⟨dx,bx,rfl,gm,ho,hc⟩
       refine Dl 10 fun K hK=>?_
       refine By 5 rfl rfl 3 1 [.int .i64 x64] gm ho rfl rfl (by decide) (by kernel_rfl) (by rfl) (by rfl) rfl (by decide) fun cu iq jg (gn:Kn 78 (Cn d e f ac ad x_v13) ((tS 65 cu 1 1)::(tA 70 (IS r_))::(tI 64 x64)::(Qo late x_v13 a x_v11 b g x_v10 k)) iq) (er:Ah ⟨w,h,Aj⟩ bx (Cn d e f ac ad x_v13) (EZ p r_ s q u x y g x_v10 k a x_v11 b z x48 aa x60) [⟨g,x_v10.length,k,3,1,ah,0⟩,⟨a,x_v11.length,b,3,1,af,0⟩,⟨z,x48.length,aa,31,1,ag++([.slice m l.length o]:List Value),0⟩,⟨m,l.length,o,3,1,ae,(ae:List Value).length⟩,⟨av,1,1,31,1,([.slice m l.length o]:List Value),0⟩,⟨cu,1,1,3,1,([.int .i64 x64]:List Value),0⟩,⟨none,0,0,3,1,[],0⟩] jg)=>?_
       have fb:Ag bx ([x64]:List Int) ([.int .i64 x64]:List Value):=⟨_,_,rfl,(Ac:rep bx (x64:Int) _),rfl⟩
       refine hK _ _ er.plOk ?_
       refine Bq [10,9,15,16,14,13,12,8,7,6,5,4,3,2,1,0] (by kernel_rfl) (by rfl) (ew cu 1 ([.int .i64 x64]:List Value) _ _ ?_)
       exact XY _ ⟨_,rfl,gn.kp,er,hc,fb⟩
      refine HT 9 15 rfl rfl (by kernel_rfl) (by decide) (rfl) (rfl) (fun K hK=>?_) (fun K hK=>?_)
      ·
       refine wc [.agg (TN x60),.c (.bool ((Int.tmod (Int.fdiv late (2 ^ (min (IntKind.u64.wrap x_v13:Int).toNat 64))) 2) == 1))] ea b1 (I0 bf b1.has x60.tm ((Ab Ac Ac):rep aw x60.tm _) ((Int.tmod (Int.fdiv late (2 ^ (min (IntKind.u64.wrap x_v13:Int).toNat 64))) 2) == 1) ex64) fun kc b9 kj e1 cl cb=>?_
       replace a0:=a0.mono cl
       obtain rfl:=e1
       refine⟨.one (.c (.int .i64 x64)),rfl,fun ir (eb:Kn 78 (Cn d e f ac ad x_v13) ((tI 64 x64)::(JG late x_v13 a x_v11 b x60 g x_v10 k)) ir)=>hK _ _ cb.plOk ?_⟩
       refine HT 10 15 rfl rfl (by kernel_rfl) (by decide) (rfl) (rfl) (fun K hK=>?_) (fun K hK=>?_)
       ·
        refine By 5 rfl rfl 3 1 [.int .i64 x64] eb cb rfl rfl (by decide) (by kernel_rfl) (by rfl) (by rfl) rfl (by decide) fun bi iu jh (ec:Kn 78 (Cn d e f ac ad x_v13) ((tS 65 bi 1 1)::(tI 64 x64)::(JG late x_v13 a x_v11 b x60 g x_v10 k)) iu) (b2:Ah ⟨w,h,Aj⟩ b9 (Cn d e f ac ad x_v13) (EZ p r_ s q u x y g x_v10 k a x_v11 b z x48 aa x60) [⟨g,x_v10.length,k,3,1,ah,0⟩,⟨a,x_v11.length,b,3,1,af,0⟩,⟨z,x48.length,aa,31,1,ag++([.slice m l.length o]:List Value),0⟩,⟨m,l.length,o,3,1,ae,(ae:List Value).length⟩,⟨av,1,1,31,1,([.slice m l.length o]:List Value),0⟩,⟨bi,1,1,3,1,([.int .i64 x64]:List Value),0⟩,⟨none,0,0,3,1,[],0⟩] jh)=>?_
        have ca:Ag b9 ([x64]:List Int) ([.int .i64 x64]:List Value):=⟨_,_,rfl,(Ac:rep b9 (x64:Int) _),rfl⟩
        refine hK _ _ b2.plOk ?_
        refine HT 11 15 rfl rfl (by kernel_rfl) (by decide) (rfl) (rfl) (fun K hK=>?_) (fun K hK=>?_)
        ·
         obtain⟨dt,hb⟩:=A8 ex66
         refine A3 0 8 1 _ (x66.length) _ ([.int .i64 x64]:List Value) ec b2 rfl rfl (by decide) rfl (by rfl) (by kernel_rfl) (by rfl) (by rfl) (Ag.len ca) (b2.rowCell (i:=5) rfl) ca.one (by rw [dt]; simp) (by rw [dt]; exact hb) (by decide) fun b5 b7 d7 iv ji fk (go:Kn 78 (Cn d e f ac ad x_v13) ((tS 66 b5 x66.length b7)::(tS 65 bi 1 1)::(tI 64 x64)::(JG late x_v13 a x_v11 b x60 g x_v10 k)) iv) (cc:Ah ⟨w,h,Aj⟩ b9 (Cn d e f ac ad x_v13) (EZ p r_ s q u x y g x_v10 k a x_v11 b z x48 aa x60) [⟨b5,x66.length,b7,3,1,ah++([.int .i64 x64]:List Value),d7⟩,⟨a,x_v11.length,b,3,1,af,0⟩,⟨z,x48.length,aa,31,1,ag++([.slice m l.length o]:List Value),0⟩,⟨m,l.length,o,3,1,ae,(ae:List Value).length⟩,⟨av,1,1,31,1,([.slice m l.length o]:List Value),0⟩,⟨bi,1,1,3,1,([.int .i64 x64]:List Value),0⟩,⟨none,0,0,3,1,[],0⟩] ji)=>?_
         have fe:Ag b9 x66 (ah++([.int .i64 x64]:List Value)):=by rw [dt]; exact Ag.append a0 ca
         obtain rfl:d7=0:=Nat.le_zero.1 fk
         refine hK _ _ cc.plOk ?_
         refine Dr [20] [20,11,10,9,16,14,13,12,8,7,6,5,4,3,2,1,0] ((tP 75 2 0)::(tS 66 b5 x66.length b7)::(tB 71 ((Int.tmod (Int.fdiv late (2 ^ (min (IntKind.u64.wrap x_v13:Int).toNat 64))) 2) == 1))::(tP 69 0 1)::(tS 68 a x_v11.length b)::(GZ x_v13 late)) go cc fun j3 gp=>?_
         refine Dl 15 fun K hK=>?_
         refine BL gp cc.plOk rfl (by decide) (by kernel_rfl) fun iw (gq:Kn 78 (Cn d e f ac ad x_v13) ((tA 70 (IS r_))::(tP 75 2 0)::(tS 66 b5 x66.length b7)::(tB 71 ((Int.tmod (Int.fdiv late (2 ^ (min (IntKind.u64.wrap x_v13:Int).toNat 64))) 2) == 1))::(tP 69 0 1)::(tS 68 a x_v11.length b)::(GZ x_v13 late)) iw)=>hK _ _ cc.plOk ?_
         refine Bq [20,11,10,9,15,16,14,13,12,8,7,6,5,4,3,2,1,0] (by kernel_rfl) (by rfl) (ev b5 b7 (ah++([.int .i64 x64]:List Value)) bi 1 ([.int .i64 x64]:List Value) _ _ ?_)
         exact XY _ ⟨_,rfl,gq.kp,cc,cl,fe,ca⟩
        ·
         refine BL ec b2.plOk rfl (by decide) (by kernel_rfl) fun ix (gr:Kn 78 (Cn d e f ac ad x_v13) ((tA 70 (IS r_))::(tS 65 bi 1 1)::(tI 64 x64)::(JG late x_v13 a x_v11 b x60 g x_v10 k)) ix)=>hK _ _ b2.plOk ?_
         refine Bq [10,9,15,16,14,13,12,8,7,6,5,4,3,2,1,0] (by kernel_rfl) (by rfl) (ew bi 1 ([.int .i64 x64]:List Value) _ _ ?_)
         exact XY _ ⟨_,rfl,gr.kp,b2,cl,ca⟩
       ·
        refine BL eb cb.plOk rfl (by decide) (by kernel_rfl) fun iy (gs:Kn 78 (Cn d e f ac ad x_v13) ((tA 70 (IS r_))::(tI 64 x64)::(JG late x_v13 a x_v11 b x60 g x_v10 k)) iy)=>hK _ _ cb.plOk ?_
        refine Bq [9,15,16,14,13,12,8,7,6,5,4,3,2,1,0] (by kernel_rfl) (by rfl) (ex _ _ ?_)
        exact XY _ ⟨_,rfl,gs.kp,cb,cl⟩
      ·
       refine BL ea b1.plOk rfl (by decide) (by kernel_rfl) fun iz (gu:Kn 78 (Cn d e f ac ad x_v13) ((tA 70 (IS r_))::(JG late x_v13 a x_v11 b x60 g x_v10 k)) iz)=>hK _ _ b1.plOk ?_
       refine Dl 9 fun K hK=>?_
       refine wc [.agg (TN x60),.c (.bool ((Int.tmod (Int.fdiv late (2 ^ (min (IntKind.u64.wrap x_v13:Int).toNat 64))) 2) == 1))] gu b1 (I0 bf b1.has x60.tm ((Ab Ac Ac):rep aw x60.tm _) ((Int.tmod (Int.fdiv late (2 ^ (min (IntKind.u64.wrap x_v13:Int).toNat 64))) 2) == 1) ex64) fun kd jm kk e2 hd es=>?_
       obtain rfl:=e2
       refine⟨.one (.c (.int .i64 x64)),rfl,fun i0 (gv:Kn 78 (Cn d e f ac ad x_v13) ((tI 64 x64)::(tA 70 (IS r_))::(JG late x_v13 a x_v11 b x60 g x_v10 k)) i0)=>hK _ _ es.plOk ?_⟩
       refine Bq [9,15,16,14,13,12,8,7,6,5,4,3,2,1,0] (by kernel_rfl) (by rfl) (ex _ _ ?_)
       exact XY _ ⟨_,rfl,gv.kp,es,hd⟩
     ·
      rw [cx,XV] at ak
      refine wp_skip (Aa (Rk 0 3 [tI 6 (IntKind.i64.wrap (x_v13+1)),tP 5 2 0,tP 4 1 0,tP 2 0 0,tI 1 late] c8 be fun j4 gw=>?_))
      refine wf ?_
      exact XY bf ⟨Nat.lt_succ_self _,XY x_v10 ⟨x_v11,x48,IntKind.i64.wrap (x_v13+1),g,k,ah,a,b,af,z,aa,ag++([.slice m l.length o]:List Value),_,_,rfl,gw.kp,be.cutRw 3,XU b0 (XU bd a7),a0,a6,ch,ak⟩⟩
   ·
    rw [cy,XV] at ak
    refine wp_exit ?_
    obtain rfl:=XZ ak
    exact XY g ⟨k,ah,a,b,af,ai,aj,ag,_,_,rfl,c9.kp,bl,b0,a0,a6,bz⟩
 ·
  rintro _ kl ⟨al,ao,a4,am,ap,ba,an,aq,bh,dy,bk,rfl,gx,et,jq,c3,c4,c5⟩
  refine XT (Aa (Rk 0 1 [tA 77 (FU al ab ao am ap an aq),tP 4 1 0] gx et fun i1 gy=>?_))
  refine wl fun K hK=>?_
  refine G2 1 0 (.agg (FU al ab ao am ap an aq)) (FU al ab ao am ap an aq) gy et fun ct gz (eu:Ah ⟨w,h,Aj⟩ bk [(d,0),(e,0),(f,0)] [⟨BO p r_ s q u x y,some 28⟩,⟨FU al ab ao am ap an aq,some 75⟩,⟨FU al ab ao am ap an aq,some 75⟩] [⟨al,ab.1.length,ao,3,1,a4,0⟩,⟨am,ab.2.1.length,ap,3,1,ba,0⟩,⟨an,ab.2.2.length,aq,31,1,bh,0⟩] ct)=>hK _ _ ?_
  have g0:Kn 78 [(d,0),(e,0),(f,0)] [tP 4 1 0] i1:=gz.kp
  refine wf (wp_ret ?_)
  obtain⟨d8,db,hz,cn⟩:=eu.settle (i:=0) rfl
  replace c3:=c3.mono db
  replace cn:Ah ⟨w,h,Aj⟩ d8 [(d,0),(e,0),(f,0)] [⟨BO p r_ s q u x y,some 28⟩,⟨FU al ab ao am ap an aq,some 75⟩,⟨FU al ab ao am ap an aq,some 75⟩] [⟨al,ab.1.length,ao,3,1,a4,(a4:List Value).length⟩,⟨am,ab.2.1.length,ap,3,1,ba,0⟩,⟨an,ab.2.2.length,aq,31,1,bh,0⟩] ct:=cn
  have dl:A6 d8 al ao ab.1:=⟨_,c3,hz,eu.rowCap (i:=0) rfl⟩
  obtain⟨d9,dc,h0,co⟩:=cn.settle (i:=1) rfl
  replace c4:=c4.mono (XU db dc)
  replace co:Ah ⟨w,h,Aj⟩ d9 [(d,0),(e,0),(f,0)] [⟨BO p r_ s q u x y,some 28⟩,⟨FU al ab ao am ap an aq,some 75⟩,⟨FU al ab ao am ap an aq,some 75⟩] [⟨al,ab.1.length,ao,3,1,a4,(a4:List Value).length⟩,⟨am,ab.2.1.length,ap,3,1,ba,(ba:List Value).length⟩,⟨an,ab.2.2.length,aq,31,1,bh,0⟩] ct:=co
  have dm:A6 d9 am ap ab.2.1:=⟨_,c4,h0,cn.rowCap (i:=1) rfl⟩
  obtain⟨cv,dd,h1,dk⟩:=co.settle (i:=2) rfl
  replace dl:=dl.mono (XU dc dd)
  replace dm:=dm.mono dd
  replace c5:=c5.mono (XU (XU db dc) dd)
  replace dk:Ah ⟨w,h,Aj⟩ cv [(d,0),(e,0),(f,0)] [⟨BO p r_ s q u x y,some 28⟩,⟨FU al ab ao am ap an aq,some 75⟩,⟨FU al ab ao am ap an aq,some 75⟩] [⟨al,ab.1.length,ao,3,1,a4,(a4:List Value).length⟩,⟨am,ab.2.1.length,ap,3,1,ba,(ba:List Value).length⟩,⟨an,ab.2.2.length,aq,31,1,bh,(bh:List Value).length⟩] ct:=dk
  have hx:A6 cv an aq ab.2.2:=⟨_,c5,h1,co.rowCap (i:=2) rfl⟩
  obtain rfl:=XZ H
  exact rt (.one (.agg (FU al ab ao am ap an aq))) g0 dk ⟨_,rfl,((Ab (Ad dl) (Ab (Ad dm) (Ad hx))):rep cv ((Bd.mk ab.1 ab.2.1 ab.2.2):Bd) _)⟩
abbrev G4 (g l m an:Nat) (x_v21:Int):Ba:=[(g,0),(l,0),(m,0),(an,0+(x_v21:Int).toNat*1)]
abbrev CL (ag:Option Addr) (t_:Bd) (aj:Nat) (ah:Option Addr) (ak:Nat) (ai:Option Addr) (al:Nat):List SC:=[.slice ag t_.tm.length aj,.slice ah t_.turns.length ak,.slice ai t_.legs.length al]
abbrev CB (aa:Option Addr) (a:Am) (ad:Nat) (ab:Option Addr) (ae:Nat) (ac:Option Addr) (af:Nat):List SC:=[.slice aa a.holds.length ad,.slice ab a.turns.length ae,.slice ac a.spares.length af]
abbrev Nb (g l m bl bo:Nat) (x_v11:Int) (bs bu:Nat) (stop:Int):Ba:=[(g,0),(l,0),(m,0),(bl,bo+(x_v11:Int).toNat*1),(bs,bu+(stop:Int).toNat*1)]
abbrev S6 (g l m an:Nat) (x_v21:Int) (ay:Nat) (x_v41:Int) (a0 a3:Nat):Ba:=[(g,0),(l,0),(m,0),(an,0+(x_v21:Int).toNat*1),(ay,0+(IntKind.i64.wrap (x_v41-1):Int).toNat*1),(a0,0+(x_v41:Int).toNat*1),(a3,0+(x_v41:Int).toNat*1)]
abbrev C4 (q:Option Addr) (r_:Af) (x:Nat) (s:Option Addr) (y:Nat) (u:Option Addr) (z:Nat):List SC:=[.slice q r_.legs.length x,.int .i64 r_.turn.lo,.int .i64 r_.turn.hi,.slice s r_.buses.length y,.slice u r_.spares.length z,.int .i64 r_.unit,.int .i64 r_.gap,.int .i64 r_.fr,.int .i64 r_.to_]
abbrev S7 (g l m an:Nat) (x_v21:Int) (ay:Nat) (x_v41:Int) (a0 a3 b2:Nat):Ba:=[(g,0),(l,0),(m,0),(an,0+(x_v21:Int).toNat*1),(ay,0+(IntKind.i64.wrap (x_v41-1):Int).toNat*1),(a0,0+(x_v41:Int).toNat*1),(a3,0+(x_v41:Int).toNat*1),(b2,0+(IntKind.i64.wrap (x_v41-1):Int).toNat*1)]
abbrev Oo (d:Option Addr) (b:List Int) (f:Nat) (aq:List Value) (o:Option Addr) (x_v40:List Int) (p:Nat) (am:List Value) (az:Option Addr) (x78:Int):List F2:=[⟨d,b.length,f,3,1,aq,0⟩,⟨o,x_v40.length,p,3,1,am,0⟩,⟨az,1,1,3,1,([.int .i64 x78]:List Value),0⟩]
abbrev JH (q:Option Addr) (r_:Af) (x:Nat) (s:Option Addr) (y:Nat) (u:Option Addr) (z:Nat) (aa:Option Addr) (a:Am) (ad:Nat) (ab:Option Addr) (ae:Nat) (ac:Option Addr) (af:Nat) (ag:Option Addr) (t_:Bd) (aj:Nat) (ah:Option Addr) (ak:Nat) (ai:Option Addr) (al:Nat):List CP:=[⟨C4 q r_ x s y u z,some 28⟩,⟨CB aa a ad ab ae ac af,some 50⟩,⟨CL ag t_ aj ah ak ai al,some 75⟩]
abbrev Ha (x_v41:Int) (o:Option Addr) (x_v40:List Int) (p:Nat) (x_v21:Int) (d:Option Addr) (b:List Int) (f:Nat):TM:=[tI 17 x_v41,tS 13 o x_v40.length p,tI 14 x_v21,tS 9 d b.length f]
abbrev DZ (x_v21:Int) (ao:Option Addr) (x_v20:List Int) (ap:Nat) (d:Option Addr) (b:List Int) (f:Nat):TM:=[tI 14 x_v21,tS 13 ao x_v20.length ap,tS 9 d b.length f]
abbrev H9 (x_v11:Int) (ar:Option Addr) (x26:List (List Int)) (au:Nat) (av:Option Addr) (x_v10:List Int) (aw:Nat) (stop:Int):TM:=[tI 11 x_v11,tS 10 ar x26.length au,tS 9 av x_v10.length aw,tP 4 0 0,tI 3 stop]
abbrev Mv (x_v41:Int) (o:Option Addr) (x_v40:List Int) (p:Nat) (x_v21:Int) (d:Option Addr) (b:List Int) (f:Nat):TM:=(tI 105 (IntKind.i64.wrap (x_v41-1)))::(tS 103 o x_v40.length p)::(tI 102 x_v41)::(tS 101 o x_v40.length p)::(Ha x_v41 o x_v40 p x_v21 d b f)
set_option maxRecDepth 100000 in
set_option maxHeartbeats 4000000 in
theorem Qp (n:Nat) {h:Ae} {w:World} (hh:Dn h w) (r_:Af) {cs_r_:List Value} (hx_r_:rep h r_ cs_r_) (a:Am) {cs_a:List Value} (hx_a:rep h a cs_a) (t_:Bd) {cs_t_:List Value} (hx_t_:rep h t_ cs_t_) (stop:Int) {r:List Int} (H:HQ n r_ a t_ stop=some r) :
  Calls Try.prog 70 #[.agg cs_r_.toArray,.agg cs_a.toArray,.agg cs_t_.toArray,.int .i64 stop] w (Dp (fun h v=>∃ a c,v=.slice a r.length c∧A6 h a c r) h w):=by
 obtain⟨_,_,rfl,⟨q,x,rfl,bi⟩,⟨_,_,rfl,⟨_,_,rfl,rfl,rfl⟩,⟨_,_,rfl,⟨s,y,rfl,bj⟩,⟨_,_,rfl,⟨u,z,rfl,bk⟩,⟨_,_,rfl,rfl,⟨_,_,rfl,rfl,⟨_,_,rfl,rfl,rfl⟩⟩⟩⟩⟩⟩⟩:=hx_r_
 obtain⟨_,_,rfl,⟨aa,ad,rfl,bc⟩,⟨_,_,rfl,⟨ab,ae,rfl,bd⟩,⟨ac,af,rfl,be⟩⟩⟩:=hx_a
 obtain⟨_,_,rfl,⟨ag,aj,rfl,bf⟩,⟨_,_,rfl,⟨ah,ak,rfl,bg⟩,⟨ai,al,rfl,bh⟩⟩⟩:=hx_t_
 refine enter 118 [.agg (C4 q r_ x s y u z),.agg (CB aa a ad ab ae ac af),.agg (CL ag t_ aj ah ak ai al),.c (.int .i64 stop)] Try.func70 rfl rfl rfl rfl fun t hk=>?_
 have hm:=Ah.begin h w hh
 unfold HQ at H
 refine XT (Aa (wl fun K hK=>?_))
 refine wb (.agg (C4 q r_ x s y u z)) hk hm fun g ld lw (ik:Kn 118 [(g,0)] [tP 4 0 0,tA 0 (C4 q r_ x s y u z),tA 1 (CB aa a ad ab ae ac af),tA 2 (CL ag t_ aj ah ak ai al),tI 3 stop] ld) (j2:Ah ⟨w,h,Aj⟩ h [(g,0)] [⟨C4 q r_ x s y u z,some 28⟩] [] lw)=>hK _ _ ?_
 refine wl fun K hK=>?_
 refine wb (.agg (CB aa a ad ab ae ac af)) ik j2 fun l lh ly (ir:Kn 118 [(g,0),(l,0)] [tP 5 1 0,tP 4 0 0,tA 0 (C4 q r_ x s y u z),tA 1 (CB aa a ad ab ae ac af),tA 2 (CL ag t_ aj ah ak ai al),tI 3 stop] lh) (j3:Ah ⟨w,h,Aj⟩ h [(g,0),(l,0)] [⟨C4 q r_ x s y u z,some 28⟩,⟨CB aa a ad ab ae ac af,some 50⟩] [] ly)=>hK _ _ ?_
 refine wl fun K hK=>?_
 refine wb (.agg (CL ag t_ aj ah ak ai al)) ir j3 fun m lk lz (i1:Kn 118 [(g,0),(l,0),(m,0)] [tP 6 2 0,tP 5 1 0,tP 4 0 0,tA 0 (C4 q r_ x s y u z),tA 1 (CB aa a ad ab ae ac af),tA 2 (CL ag t_ aj ah ak ai al),tI 3 stop] lk) (eg:Ah ⟨w,h,Aj⟩ h [(g,0),(l,0),(m,0)] (JH q r_ x s y u z aa a ad ab ae ac af ag t_ aj ah ak ai al) [] lz)=>hK _ _ ?_
 refine Rk 3 1 [tP 6 2 0,tP 5 1 0,tP 4 0 0,tI 3 stop] i1 eg fun nh i7=>?_
 refine wf (XT (Aa (Rk 0 4 [tI 21 r_.to_,tI 19 r_.fr,tP 6 2 0,tP 5 1 0,tP 4 0 0,tI 3 stop] i7 eg fun ni ja=>?_)))
 refine wl fun K hK=>?_
 refine wS 3 1 [.int .i64 r_.fr,.int .i64 r_.to_] ja eg fun b1 ln l1 (ji:Kn 118 [(g,0),(l,0),(m,0)] [tS 22 b1 2 2,tI 21 r_.to_,tI 19 r_.fr,tP 6 2 0,tP 5 1 0,tP 4 0 0,tI 3 stop] ln) (dj:Ah ⟨w,h,Aj⟩ h [(g,0),(l,0),(m,0)] (JH q r_ x s y u z aa a ad ab ae ac af ag t_ aj ah ak ai al) [⟨b1,2,2,3,1,([.int .i64 r_.fr,.int .i64 r_.to_]:List Value),0⟩] l1)=>?_
 have d2:Ag h ([r_.fr,r_.to_]:List Int) ([.int .i64 r_.fr,.int .i64 r_.to_]:List Value):=⟨_,_,rfl,(Ac:rep h (r_.fr:Int) _),⟨_,_,rfl,(Ac:rep h (r_.to_:Int) _),rfl⟩⟩
 refine hK _ _ ?_
 refine Rk 5 1 [tS 9 b1 2 2,tP 6 2 0,tP 5 1 0,tP 4 0 0,tI 3 stop] ji dj fun nm jj=>?_
 refine wf (XT (Aa (Rk 0 3 [tA 25 (CL ag t_ aj ah ak ai al),tA 24 (CB aa a ad ab ae ac af),tA 23 (C4 q r_ x s y u z),tS 9 b1 2 2,tP 4 0 0,tI 3 stop] jj dj fun nn jk=>?_)))
 obtain⟨x26,ex26,H⟩:=Aq H
 refine wl fun K hK=>?_
 refine wc [.agg (C4 q r_ x s y u z),.agg (CB aa a ad ab ae ac af),.agg (CL ag t_ aj ah ak ai al)] jk dj (RX n dj.has r_ ((Ab (Ad bi) (Ab (Ab Ac Ac) (Ab (Ad bj) (Ab (Ad bk) (Ab Ac (Ab Ac (Ab Ac Ac))))))):rep h r_ _) a ((Ab (Ad bc) (Ab (Ad bd) (Ad be))):rep h a _) t_ ((Ab (Ad bf) (Ab (Ad bg) (Ad bh))):rep h t_ _) ex26) fun nu fb ny gs bt ek=>?_
 replace bi:=bi.mono bt
 replace bj:=bj.mono bt
 replace bk:=bk.mono bt
 replace bc:=bc.mono bt
 replace bd:=bd.mono bt
 replace be:=be.mono bt
 replace bf:=bf.mono bt
 replace bg:=bg.mono bt
 replace bh:=bh.mono bt
 replace d2:=d2.mono bt
 obtain⟨ar,au,rfl,el⟩:=gs
 refine⟨.one (.c (.slice ar x26.length au)),rfl,fun lp (jl:Kn 118 [(g,0),(l,0),(m,0)] [tS 26 ar x26.length au,tA 25 (CL ag t_ aj ah ak ai al),tA 24 (CB aa a ad ab ae ac af),tA 23 (C4 q r_ x s y u z),tS 9 b1 2 2,tP 4 0 0,tI 3 stop] lp)=>hK _ _ ?_⟩
 refine Rk 4 1 [tS 10 ar x26.length au,tS 9 b1 2 2,tP 4 0 0,tI 3 stop] jl ek fun np jm=>?_
 refine wf (XT (XT (Aa (Rk 0 1 [tI 11 0,tS 10 ar x26.length au,tS 9 b1 2 2,tP 4 0 0,tI 3 stop] jm ek fun nq jn=>?_))))
 refine wf ?_
 obtain⟨b,e7,H⟩:=Aq H
 refine Av (fun a' w'=>∃ (d:Option Addr)(f:Nat)(aq:List Value)(ey:Array Value)(b4:Ae),a' = ⟨ey,[]⟩∧Kn 118 [(g,0),(l,0),(m,0)] [tS 9 d b.length f] ey∧Ah ⟨w,h,Aj⟩ b4 [(g,0),(l,0),(m,0)] (JH q r_ x s y u z aa a ad ab ae ac af ag t_ aj ah ak ai al) [⟨d,b.length,f,3,1,aq,0⟩] w'∧Ae.le fb b4∧Ag b4 b aq) ?_ ?_
 ·
  refine wp_block ?_
  refine Ar (fun k5 a' w'=>∃ (x_v10:List Int)(x_v11:Int)(av:Option Addr)(aw:Nat)(br:List Value)(ez:Array Value)(cf:Ae),a' = ⟨ez,[]⟩∧Kn 118 [(g,0),(l,0),(m,0)] (H9 x_v11 ar x26 au av x_v10 aw stop) ez∧Ah ⟨w,h,Aj⟩ cf [(g,0),(l,0),(m,0)] (JH q r_ x s y u z aa a ad ab ae ac af ag t_ aj ah ak ai al) [⟨av,x_v10.length,aw,3,1,br,0⟩] w'∧Ae.le fb cf∧Ag cf x_v10 br∧Dg k5 r_ stop x26 x_v10 x_v11=some b) n ?_ ?_
  ·
   exact XY ([r_.fr,r_.to_]:List Int) ⟨0,b1,2,([.int .i64 r_.fr,.int .i64 r_.to_]:List Value),_,_,rfl,jn.kp,ek,Ae.le_refl _,d2,e7⟩
  ·
   rintro c4 _ go ⟨x_v10,x_v11,av,aw,br,ez,cf,rfl,jo,dk,bb,c0,a2⟩
   clear e7
   obtain _ | c4:=c4
   ·
    rw [Dg] at a2; cases a2
   rw [Dg] at a2
   replace bi:=bi.mono bb
   replace bj:=bj.mono bb
   replace bk:=bk.mono bb
   replace bc:=bc.mono bb
   replace bd:=bd.mono bb
   replace be:=be.mono bb
   replace bf:=bf.mono bb
   replace bg:=bg.mono bb
   replace bh:=bh.mono bb
   replace el:=el.mono bb
   refine XT (XT (Aa (Rk 0 4 ((tB 30 (decide (x_v11<((x26.length:Nat):Int))))::(H9 x_v11 ar x26 au av x_v10 aw stop)) jo dk fun nr d8=>?_)))
   refine wf (wC (decide (x_v11<((x26.length:Nat):Int))) d8 (fun dx=>?_) (fun dx=>?_))
   ·
    rw [dx,XW] at a2
    refine wp_skip (XT (wp_block (XT (Aa (Rk 0 2 ((tI 34 x_v11)::(tS 33 ar x26.length au)::(H9 x_v11 ar x26 au av x_v10 aw stop)) d8 dk fun ns jp=>?_)))))
    obtain⟨x35,ex35,a2⟩:=Aq a2
    obtain⟨j8,ka,kr⟩:=Ai ex35
    obtain⟨bl,bo,l2,gu,kf,gw⟩:=el.get (by decide) kr
    obtain⟨b7,b9,rfl,kc⟩:=kf
    have fn:Ah ⟨w,h,Aj⟩ cf [(g,0),(l,0),(m,0),(bl,bo+(x_v11:Int).toNat*1)] [⟨C4 q r_ x s y u z,some 28⟩,⟨CB aa a ad ab ae ac af,some 50⟩,⟨CL ag t_ aj ah ak ai al,some 75⟩,⟨[.slice b7 x35.length b9],none⟩] [⟨av,x_v10.length,aw,3,1,br,0⟩] go:=dk.addPlc (cs:=[.slice b7 x35.length b9]) (fun j c hj=>gw j _ (Al hj)) rfl (by kernel_rfl) (by kernel_rfl)
    refine Bc 2 (x_v11) rfl rfl (rfl) rfl (by decide) jp (by rfl) (by rfl) (by rfl) gu (by rfl) j8 ka (by kernel_rfl) fun k6 (hf:Kn 118 [(g,0),(l,0),(m,0),(bl,bo+(x_v11:Int).toNat*1)] ((tP 35 3 0)::(tI 34 x_v11)::(tS 33 ar x26.length au)::(H9 x_v11 ar x26 au av x_v10 aw stop)) k6)=>?_
    refine Rk 3 2 ((tI 37 stop)::(tS 36 b7 x35.length b9)::(H9 x_v11 ar x26 au av x_v10 aw stop)) hf fn fun mk hg=>?_
    obtain⟨x38,ex38,a2⟩:=Aq a2
    obtain⟨j9,kb,ks⟩:=Ai ex38
    obtain⟨bs,bu,l3,gv,kg,gx⟩:=kc.get (by decide) ks
    obtain rfl:=kg
    have dg:Ah ⟨w,h,Aj⟩ cf (Nb g l m bl bo x_v11 bs bu stop) [⟨C4 q r_ x s y u z,some 28⟩,⟨CB aa a ad ab ae ac af,some 50⟩,⟨CL ag t_ aj ah ak ai al,some 75⟩,⟨[.slice b7 x35.length b9],none⟩,⟨[.int .i64 x38],none⟩] [⟨av,x_v10.length,aw,3,1,br,0⟩] go:=fn.addPlc (cs:=[.int .i64 x38]) (fun j c hj=>gx j _ (Al hj)) rfl (by kernel_rfl) (by kernel_rfl)
    refine Bc 5 (stop) rfl rfl (rfl) rfl (by decide) hg (by rfl) (by rfl) (by rfl) gv (by rfl) j9 kb (by kernel_rfl) fun k7 (hl:Kn 118 (Nb g l m bl bo x_v11 bs bu stop) ((tP 38 4 0)::(tI 37 stop)::(tS 36 b7 x35.length b9)::(H9 x_v11 ar x26 au av x_v10 aw stop)) k7)=>?_
    refine Rk 6 2 ((tI 12 x38)::(H9 x_v11 ar x26 au av x_v10 aw stop)) hl dg fun ml hn=>?_
    refine wf (XT (Aa (Rk 0 5 ((tI 44 r_.to_)::(tI 42 r_.fr)::(tI 40 x38)::(tI 12 x38)::(H9 x_v11 ar x26 au av x_v10 aw stop)) hn dg fun mm ho=>?_)))
    obtain⟨x45,ex45,a2⟩:=Aq a2
    refine wl fun K hK=>?_
    refine wc [.c (.int .i64 x38),.c (.int .i64 r_.fr),.c (.int .i64 r_.to_)] ho dg (Ff c4 dg.has x38 r_.fr r_.to_ ex45) fun nt ct nv gr eb dh=>?_
    replace c0:=c0.mono eb
    obtain rfl:=gr
    refine⟨.one (.c (.bool x45)),rfl,fun gh (hp:Kn 118 (Nb g l m bl bo x_v11 bs bu stop) ((tB 45 x45)::(tI 44 r_.to_)::(tI 42 r_.fr)::(tI 40 x38)::(tI 12 x38)::(H9 x_v11 ar x26 au av x_v10 aw stop)) gh)=>hK _ _ ?_⟩
    have d3:Kn 118 (Nb g l m bl bo x_v11 bs bu stop) ((tB 45 x45)::(tI 12 x38)::(H9 x_v11 ar x26 au av x_v10 aw stop)) gh:=hp.kp
    refine wf (wC (x45) d3 (fun ds=>?_) (fun ds=>?_))
    ·
     rw [ds,XW] at a2
     refine Aa (Rk 0 2 [tI 47 x38,tS 46 av x_v10.length aw,tI 11 x_v11,tS 10 ar x26.length au,tP 4 0 0,tI 3 stop] d3 dh fun mn hq=>?_)
     refine wl fun K hK=>?_
     refine wS 3 1 [.int .i64 x38] hq dh fun c6 k8 lq (hr:Kn 118 (Nb g l m bl bo x_v11 bs bu stop) [tS 48 c6 1 1,tI 47 x38,tS 46 av x_v10.length aw,tI 11 x_v11,tS 10 ar x26.length au,tP 4 0 0,tI 3 stop] k8) (fo:Ah ⟨w,h,Aj⟩ ct (Nb g l m bl bo x_v11 bs bu stop) [⟨C4 q r_ x s y u z,some 28⟩,⟨CB aa a ad ab ae ac af,some 50⟩,⟨CL ag t_ aj ah ak ai al,some 75⟩,⟨[.slice b7 x35.length b9],none⟩,⟨[.int .i64 x38],none⟩] [⟨av,x_v10.length,aw,3,1,br,0⟩,⟨c6,1,1,3,1,([.int .i64 x38]:List Value),0⟩] lq)=>?_
     have dy:Ag ct ([x38]:List Int) ([.int .i64 x38]:List Value):=⟨_,_,rfl,(Ac:rep ct (x38:Int) _),rfl⟩
     refine hK _ _ ?_
     obtain⟨x49,ex49,a2⟩:=Aq a2
     obtain⟨em,jq⟩:=A8 ex49
     refine wl fun K hK=>?_
     refine A3 0 8 1 _ (x49.length) _ ([.int .i64 x38]:List Value) hr fo rfl rfl (by decide) rfl (by rfl) (by kernel_rfl) (by rfl) (by rfl) (Ag.len dy) (fo.rowCell (i:=1) rfl) dy.one (by rw [em]; simp) (by rw [em]; exact jq) (by decide) fun cm cp e8 k9 lr hd (hs:Kn 118 (Nb g l m bl bo x_v11 bs bu stop) [tS 49 cm x49.length cp,tS 48 c6 1 1,tI 47 x38,tS 46 av x_v10.length aw,tI 11 x_v11,tS 10 ar x26.length au,tP 4 0 0,tI 3 stop] k9) (ed:Ah ⟨w,h,Aj⟩ ct (Nb g l m bl bo x_v11 bs bu stop) [⟨C4 q r_ x s y u z,some 28⟩,⟨CB aa a ad ab ae ac af,some 50⟩,⟨CL ag t_ aj ah ak ai al,some 75⟩,⟨[.slice b7 x35.length b9],none⟩,⟨[.int .i64 x38],none⟩] [⟨cm,x49.length,cp,3,1,br++([.int .i64 x38]:List Value),e8⟩,⟨c6,1,1,3,1,([.int .i64 x38]:List Value),0⟩] lr)=>?_
     have gy:Ag ct x49 (br++([.int .i64 x38]:List Value)):=by rw [em]; exact Ag.append c0 dy
     obtain rfl:e8=0:=Nat.le_zero.1 hd
     refine hK _ _ ?_
     refine Rk 4 1 [tS 9 cm x49.length cp,tI 11 x_v11,tS 10 ar x26.length au,tP 4 0 0,tI 3 stop] hs ed fun mo ht=>?_
     refine wf (Aa (Rk 0 3 [tI 11 (IntKind.i64.wrap (x_v11+1)),tS 9 cm x49.length cp,tS 10 ar x26.length au,tP 4 0 0,tI 3 stop] ht ed fun mp hu=>?_))
     refine wf ?_
     exact XY c4 ⟨Nat.lt_succ_self _,XY x49 ⟨IntKind.i64.wrap (x_v11+1),cm,cp,br++([.int .i64 x38]:List Value),_,_,rfl,(hu.keep [11,10,9,4,3] (by rfl)).cut 3 (by kernel_rfl),(ed.cutRw 1).cutPl 3 (by kernel_rfl),XU bb eb,gy,a2⟩⟩
    ·
     rw [ds,XV] at a2
     refine wp_skip (Aa (Rk 0 3 [tI 11 (IntKind.i64.wrap (x_v11+1)),tS 10 ar x26.length au,tS 9 av x_v10.length aw,tP 4 0 0,tI 3 stop] d3 dh fun mq hv=>?_))
     refine wf ?_
     exact XY c4 ⟨Nat.lt_succ_self _,XY x_v10 ⟨IntKind.i64.wrap (x_v11+1),av,aw,br,_,_,rfl,(hv.keep [11,10,9,4,3] (by rfl)).cut 3 (by kernel_rfl),dh.cutPl 3 (by kernel_rfl),XU bb eb,c0,a2⟩⟩
   ·
    rw [dx,XV] at a2
    refine wp_exit ?_
    obtain rfl:=XZ a2
    exact XY av ⟨aw,br,_,_,rfl,d8.kp,dk,bb,c0⟩
 ·
  rintro _ ls ⟨d,f,aq,ey,b4,rfl,hw,ee,bw,bm⟩
  replace bi:=bi.mono bw
  replace bj:=bj.mono bw
  replace bk:=bk.mono bw
  replace bc:=bc.mono bw
  replace bd:=bd.mono bw
  replace be:=be.mono bw
  replace bf:=bf.mono bw
  replace bg:=bg.mono bw
  replace bh:=bh.mono bw
  refine XT (Aa (Rk 0 1 [tS 13 none 0 0,tS 9 d b.length f] hw ee fun mr hx=>?_))
  refine wf (XT (XT (Aa (Rk 0 1 [tI 14 0,tS 13 none 0 0,tS 9 d b.length f] hx ee fun ms hy=>?_))))
  refine wf ?_
  have j1:Ah ⟨w,h,Aj⟩ b4 [(g,0),(l,0),(m,0)] (JH q r_ x s y u z aa a ad ab ae ac af ag t_ aj ah ak ai al) [⟨d,b.length,f,3,1,aq,0⟩,⟨none,0,0,3,1,[],0⟩] ls:=ee.nilRow 3 1
  have gz:Ag b4 ([]:List Int) []:=Ag.nil
  obtain⟨b6,e4,H⟩:=Aq H
  refine Av (fun a' w'=>∃ (b8:Option Addr)(ca:Nat)(c5:List Value)(ep:Array Value)(c9:Ae),a' = ⟨ep,[]⟩∧Kn 118 [(g,0),(l,0),(m,0)] [tS 13 b8 b6.length ca] ep∧Ah ⟨w,h,Aj⟩ c9 [(g,0),(l,0),(m,0)] (JH q r_ x s y u z aa a ad ab ae ac af ag t_ aj ah ak ai al) [⟨d,b.length,f,3,1,aq,0⟩,⟨b8,b6.length,ca,3,1,c5,0⟩] w'∧Ae.le b4 c9∧Ag c9 b6 c5) ?_ ?_
  ·
   refine wp_block ?_
   refine Ar (fun k2 a' w'=>∃ (x_v20:List Int)(x_v21:Int)(ao:Option Addr)(ap:Nat)(a6:List Value)(er:Array Value)(ce:Ae),a' = ⟨er,[]⟩∧Kn 118 [(g,0),(l,0),(m,0)] (DZ x_v21 ao x_v20 ap d b f) er∧Ah ⟨w,h,Aj⟩ ce [(g,0),(l,0),(m,0)] (JH q r_ x s y u z aa a ad ab ae ac af ag t_ aj ah ak ai al) [⟨d,b.length,f,3,1,aq,0⟩,⟨ao,x_v20.length,ap,3,1,a6,0⟩] w'∧Ae.le b4 ce∧Ag ce x_v20 a6∧Dj k2 b x_v20 x_v21=some b6) n ?_ ?_
   ·
    exact XY ([]:List Int) ⟨0,none,0,[],_,_,rfl,hy.kp,j1,Ae.le_refl _,gz,e4⟩
   ·
    rintro ck _ nw ⟨x_v20,x_v21,ao,ap,a6,er,ce,rfl,hz,c2,a8,bv,a1⟩
    clear e4
    obtain _ | ck:=ck
    ·
     rw [Dj] at a1; cases a1
    rw [Dj] at a1
    replace bi:=bi.mono a8
    replace bj:=bj.mono a8
    replace bk:=bk.mono a8
    replace bc:=bc.mono a8
    replace bd:=bd.mono a8
    replace be:=be.mono a8
    replace bf:=bf.mono a8
    replace bg:=bg.mono a8
    replace bh:=bh.mono a8
    replace bm:=bm.mono a8
    refine XT (XT (Aa (Rk 0 4 ((tB 53 (decide (x_v21<((b.length:Nat):Int))))::(DZ x_v21 ao x_v20 ap d b f)) hz c2 fun mt d4=>?_)))
    refine wf (wC (decide (x_v21<((b.length:Nat):Int))) d4 (fun dt=>?_) (fun dt=>?_))
    ·
     rw [dt,XW] at a1
     refine wp_skip (XT (wp_block (XT (Aa (Rk 0 1 ((tB 15 false)::(DZ x_v21 ao x_v20 ap d b f)) d4 c2 fun mu h0=>?_)))))
     refine wf (XT (XT (Aa (Rk 0 1 ((tI 16 0)::(tB 15 false)::(DZ x_v21 ao x_v20 ap d b f)) h0 c2 fun mv h1=>?_))))
     refine wf ?_
     obtain⟨dm,e5,a1⟩:=Aq a1
     refine Av (fun a' w'=>∃ (es:Array Value)(bq:Ae),a' = ⟨es,[]⟩∧Kn 118 [(g,0),(l,0),(m,0)] ((tB 15 dm)::(DZ x_v21 ao x_v20 ap d b f)) es∧Ah ⟨w,h,Aj⟩ bq [(g,0),(l,0),(m,0)] (JH q r_ x s y u z aa a ad ab ae ac af ag t_ aj ah ak ai al) [⟨d,b.length,f,3,1,aq,0⟩,⟨ao,x_v20.length,ap,3,1,a6,0⟩] w'∧Ae.le ce bq) ?_ ?_
     ·
      refine wp_block ?_
      refine Ar (fun k3 a' w'=>∃ (x_v30:Int)(x_v31:Bool)(et:Array Value)(cu:Ae),a' = ⟨et,[]⟩∧Kn 118 [(g,0),(l,0),(m,0)] ((tI 16 x_v30)::(tB 15 x_v31)::(DZ x_v21 ao x_v20 ap d b f)) et∧Ah ⟨w,h,Aj⟩ cu [(g,0),(l,0),(m,0)] (JH q r_ x s y u z aa a ad ab ae ac af ag t_ aj ah ak ai al) [⟨d,b.length,f,3,1,aq,0⟩,⟨ao,x_v20.length,ap,3,1,a6,0⟩] w'∧Ae.le ce cu∧Dh k3 b x_v20 x_v21 x_v30 x_v31=some dm) ck ?_ ?_
      ·
       exact XY 0 ⟨false,_,_,rfl,h1.kp,c2,Ae.le_refl _,e5⟩
      ·
       rintro dl _ gl ⟨x_v30,x_v31,et,cu,rfl,h2,bn,c1,a7⟩
       clear e5
       obtain _ | dl:=dl
       ·
        rw [Dh] at a7; cases a7
       rw [Dh] at a7
       replace bm:=bm.mono c1
       replace bv:=bv.mono c1
       refine XT (XT (Aa (Rk 0 4 ((tB 59 (decide (x_v30<((x_v20.length:Nat):Int))))::(tI 16 x_v30)::(tB 15 x_v31)::(DZ x_v21 ao x_v20 ap d b f)) h2 bn fun mw d5=>?_)))
       refine wf (wC (decide (x_v30<((x_v20.length:Nat):Int))) d5 (fun du=>?_) (fun du=>?_))
       ·
        rw [du,XW] at a7
        refine wp_skip (XT (wp_block (An (by kernel_rfl) ?_)))
        replace bn:=bn.drew
        refine Ao [] [(g,0),(l,0),(m,0)] (JH q r_ x s y u z aa a ad ab ae ac af ag t_ aj ah ak ai al) ?_
        refine Dr [0,1] [1,0] ((tB 63 x_v31)::(tI 16 x_v30)::(DZ x_v21 ao x_v20 ap d b f)) d5 bn fun gi fh=>?_
        rcases Bool.eq_false_or_eq_true (x_v31) with cx | cx
        ·
         rw [cx,XW] at a7
         have h3:Kn 118 [(g,0),(l,0),(m,0)] ((tB 63 true)::(tI 16 x_v30)::(DZ x_v21 ao x_v20 ap d b f)) gi:=(fh.setB 63 true (by rfl) cx).kp
         refine Dr [2,3,4,5,6,7,8,9,10,11,12] (dn 12) ((tB 15 true)::(tI 16 x_v30)::(DZ x_v21 ao x_v20 ap d b f)) h3 bn fun mx h4=>?_
         refine Ay (by kernel_rfl) (Aa (Rk 0 3 ((tI 16 (IntKind.i64.wrap (x_v30+1)))::(tB 15 true)::(DZ x_v21 ao x_v20 ap d b f)) h4 bn fun my h5=>?_))
         refine wf ?_
         exact XY dl ⟨Nat.lt_succ_self _,XY (IntKind.i64.wrap (x_v30+1)) ⟨true,_,_,rfl,h5.kp,bn,c1,a7⟩⟩
        ·
         rw [cx,XV] at a7
         have h6:Kn 118 [(g,0),(l,0),(m,0)] ((tB 63 false)::(tI 16 x_v30)::(DZ x_v21 ao x_v20 ap d b f)) gi:=(fh.setB 63 false (by rfl) cx).kp
         refine Dr [2,3] (dn 3) ((tI 65 x_v30)::(tS 64 ao x_v20.length ap)::(tB 63 false)::(tI 16 x_v30)::(DZ x_v21 ao x_v20 ap d b f)) h6 bn fun mz fi=>?_
         obtain⟨x66,ex66,a7⟩:=Aq a7
         obtain⟨fv,f4,kt⟩:=Ai ex66
         have jr:=Cs fv f4
         obtain⟨l4,kh,g0⟩:=DA (sz:=1) rfl bv kt
         obtain rfl:=kh
         obtain⟨c7,cv⟩:=CR bn (i:=1) rfl (b0:=0+(x_v30:Int).toNat*1) (Nat.lt_of_lt_of_le (Nat.lt_add_of_pos_right (by decide)) (Cr (sz:=1) rfl bv jr))
         have cg:Ah ⟨w,h,Aj⟩ cu [(g,0),(l,0),(m,0),(c7,0+(x_v30:Int).toNat*1)] [⟨C4 q r_ x s y u z,some 28⟩,⟨CB aa a ad ab ae ac af,some 50⟩,⟨CL ag t_ aj ah ak ai al,some 75⟩,⟨[],none⟩] [⟨d,b.length,f,3,1,aq,0⟩,⟨ao,x_v20.length,ap,3,1,a6,0⟩] (World.drew gl):=bn.addPlc (cs:=[]) (fun j c hj=>by simp at hj) rfl (by kernel_rfl) (by kernel_rfl)
         have dd:∀ (e:Ba) k c,([.int .i64 x66]:List SC)[k]? = some c→(a6)[0+(x_v30:Int).toNat*1+k]? = some (c.den e):=fun e k c hk=>g0 k _ (Al hk)
         refine Ax 4 (x_v30) [.int .i64 x66] (fun _ _ _ _ _ h=>h) rfl rfl (Ak fi (by kernel_rfl)) rfl (by decide) (by kernel_rfl) (by kernel_rfl) fi bn.plOk (by rfl) (by rfl) (by rfl) cv (by rfl) fv f4 (by kernel_rfl) fun la (h7:Kn 118 [(g,0),(l,0),(m,0),(c7,0+(x_v30:Int).toNat*1)] ((tP 66 3 0)::(tI 65 x_v30)::(tS 64 ao x_v20.length ap)::(tB 63 false)::(tI 16 x_v30)::(DZ x_v21 ao x_v20 ap d b f)) la)=>?_
         refine II [5,6,7] [7,6,5,4,3,2,1,0] [69,68,67,63,16,14,13,9] ((tI 69 x_v21)::(tS 68 d b.length f)::(tI 67 x66)::(tB 63 false)::(tI 16 x_v30)::(DZ x_v21 ao x_v20 ap d b f)) (fun _ _ _ _ _ h=>h) h7 (AZ.peek cg.plOk cg 1 3 rfl rfl cv [.int .i64 x66] (dd _)) (by kernel_rfl) (by rfl) (by kernel_rfl) fun m0 fj=>?_
         obtain⟨x70,ex70,a7⟩:=Aq a7
         obtain⟨fw,f5,ku⟩:=Ai ex70
         have js:=Cs fw f5
         obtain⟨l5,ki,g1⟩:=DA (sz:=1) rfl bm ku
         obtain rfl:=ki
         obtain⟨e2,dq⟩:=CR cg (i:=0) rfl (b0:=0+(x_v21:Int).toNat*1) (Nat.lt_of_lt_of_le (Nat.lt_add_of_pos_right (by decide)) (Cr (sz:=1) rfl bm js))
         have cc:Ah ⟨w,h,Aj⟩ cu [(g,0),(l,0),(m,0),(c7,0+(x_v30:Int).toNat*1),(e2,0+(x_v21:Int).toNat*1)] [⟨C4 q r_ x s y u z,some 28⟩,⟨CB aa a ad ab ae ac af,some 50⟩,⟨CL ag t_ aj ah ak ai al,some 75⟩,⟨[],none⟩,⟨[],none⟩] [⟨d,b.length,f,3,1,aq,0⟩,⟨ao,x_v20.length,ap,3,1,a6,0⟩] (World.drew gl):=cg.addPlc (cs:=[]) (fun j c hj=>by simp at hj) rfl (by kernel_rfl) (by kernel_rfl)
         have ff:∀ (e:Ba) k c,([.int .i64 x70]:List SC)[k]? = some c→(aq)[0+(x_v21:Int).toNat*1+k]? = some (c.den e):=fun e k c hk=>g1 k _ (Al hk)
         refine Ax 8 (x_v21) [.int .i64 x70] (fun _ _ _ _ _ h=>h) rfl rfl (Ak fj (by kernel_rfl)) rfl (by decide) (by kernel_rfl) (by kernel_rfl) fj (AZ.peek cg.plOk cg 1 3 rfl rfl cv [.int .i64 x66] (dd _)) (by rfl) (by rfl) (by rfl) dq (by rfl) fw f5 (by kernel_rfl) fun lb (h8:Kn 118 [(g,0),(l,0),(m,0),(c7,0+(x_v30:Int).toNat*1),(e2,0+(x_v21:Int).toNat*1)] ((tP 70 4 0)::(tI 69 x_v21)::(tS 68 d b.length f)::(tI 67 x66)::(tB 63 false)::(tI 16 x_v30)::(DZ x_v21 ao x_v20 ap d b f)) lb)=>?_
         refine II [9,10,11,12] [12,11,10,9,8,7,6,5,4,3,2,1,0] [15,16,14,13,9] ((tB 15 (x66 == x70))::(tI 16 x_v30)::(DZ x_v21 ao x_v20 ap d b f)) (fun _ _ _ _ _ h=>h) h8 (AZ.peek (AZ.peek cc.plOk cc 1 3 rfl rfl cv [.int .i64 x66] (dd _)) cc 0 4 rfl rfl dq [.int .i64 x70] (ff _)) (by kernel_rfl) (by rfl) (by kernel_rfl) fun m1 h9=>?_
         refine Ay (by kernel_rfl) (Aa (NG 0 3 [16,15,14,13,9] ((tI 16 (IntKind.i64.wrap (x_v30+1)))::(tB 15 (x66 == x70))::(DZ x_v21 ao x_v20 ap d b f)) h9 (AZ.peek (AZ.peek cc.plOk cc 1 3 rfl rfl cv [.int .i64 x66] (dd _)) cc 0 4 rfl rfl dq [.int .i64 x70] (ff _)) (by kernel_rfl) fun m2 ia=>?_))
         refine wf ?_
         exact XY dl ⟨Nat.lt_succ_self _,XY (IntKind.i64.wrap (x_v30+1)) ⟨x66 == x70,_,_,rfl,(ia.keep [16,15,14,13,9] (by rfl)).cut 3 (by kernel_rfl),cc.cutPl 3 (by kernel_rfl),c1,a7⟩⟩
       ·
        rw [du,XV] at a7
        refine wp_exit ?_
        obtain rfl:=XZ a7
        exact XY _ ⟨_,rfl,d5.kp,bn,c1⟩
     ·
      rintro _ lu ⟨es,bq,rfl,ib,ch,a9⟩
      replace bi:=bi.mono a9
      replace bj:=bj.mono a9
      replace bk:=bk.mono a9
      replace bc:=bc.mono a9
      replace bd:=bd.mono a9
      replace be:=be.mono a9
      replace bf:=bf.mono a9
      replace bg:=bg.mono a9
      replace bh:=bh.mono a9
      replace bm:=bm.mono a9
      replace bv:=bv.mono a9
      refine XT (XT (Aa (Rk 0 1 ((tB 74 dm)::(DZ x_v21 ao x_v20 ap d b f)) ib ch fun m3 d6=>?_)))
      refine wf (wC (dm) d6 (fun dv=>?_) (fun dv=>?_))
      ·
       rw [dv,XW] at a1
       refine wp_exit (Aa (Rk 0 3 [tI 14 (IntKind.i64.wrap (x_v21+1)),tS 13 ao x_v20.length ap,tS 9 d b.length f] d6 ch fun m4 ic=>?_))
       refine wf ?_
       exact XY ck ⟨Nat.lt_succ_self _,XY x_v20 ⟨IntKind.i64.wrap (x_v21+1),ao,ap,a6,_,_,rfl,ic.kp,ch,XU a8 a9,bv,a1⟩⟩
      ·
       rw [dv,XV] at a1
       refine wp_skip (XT (Aa (Rk 0 3 [tI 77 x_v21,tS 76 d b.length f,tS 75 ao x_v20.length ap,tI 14 x_v21,tS 9 d b.length f] d6 ch fun m5 ie=>?_)))
       obtain⟨x78,ex78,a1⟩:=Aq a1
       obtain⟨fx,f6,kv⟩:=Ai ex78
       have jt:=Cs fx f6
       obtain⟨l6,kj,g2⟩:=DA (sz:=1) rfl bm kv
       obtain rfl:=kj
       obtain⟨an,db⟩:=CR ch (i:=0) rfl (b0:=0+(x_v21:Int).toNat*1) (Nat.lt_of_lt_of_le (Nat.lt_add_of_pos_right (by decide)) (Cr (sz:=1) rfl bm jt))
       have ef:Ah ⟨w,h,Aj⟩ bq (G4 g l m an x_v21) [⟨C4 q r_ x s y u z,some 28⟩,⟨CB aa a ad ab ae ac af,some 50⟩,⟨CL ag t_ aj ah ak ai al,some 75⟩,⟨[],none⟩] [⟨d,b.length,f,3,1,aq,0⟩,⟨ao,x_v20.length,ap,3,1,a6,0⟩] lu:=ch.addPlc (cs:=[]) (fun j c hj=>by simp at hj) rfl (by kernel_rfl) (by kernel_rfl)
       have d0:∀ (e:Ba) k c,([.int .i64 x78]:List SC)[k]? = some c→(aq)[0+(x_v21:Int).toNat*1+k]? = some (c.den e):=fun e k c hk=>g2 k _ (Al hk)
       refine Bc 3 (x_v21) rfl rfl (rfl) rfl (by decide) ie (by rfl) (by rfl) (by rfl) db (by rfl) fx f6 (by kernel_rfl) fun lc (ig:Kn 118 (G4 g l m an x_v21) [tP 78 3 0,tI 77 x_v21,tS 76 d b.length f,tS 75 ao x_v20.length ap,tI 14 x_v21,tS 9 d b.length f] lc)=>?_
       refine NG 4 1 [79,75,14,9] [tI 79 x78,tS 75 ao x_v20.length ap,tI 14 x_v21,tS 9 d b.length f] ig (AZ.peek ef.plOk ef 0 3 rfl rfl db [.int .i64 x78] (d0 _)) (by kernel_rfl) fun m6 ih=>?_
       refine wl fun K hK=>?_
       refine wS 3 1 [.int .i64 x78] ih ef fun az lf lv (ii:Kn 118 (G4 g l m an x_v21) [tS 80 az 1 1,tI 79 x78,tS 75 ao x_v20.length ap,tI 14 x_v21,tS 9 d b.length f] lf) (fp:Ah ⟨w,h,Aj⟩ bq (G4 g l m an x_v21) [⟨C4 q r_ x s y u z,some 28⟩,⟨CB aa a ad ab ae ac af,some 50⟩,⟨CL ag t_ aj ah ak ai al,some 75⟩,⟨[],none⟩] [⟨d,b.length,f,3,1,aq,0⟩,⟨ao,x_v20.length,ap,3,1,a6,0⟩,⟨az,1,1,3,1,([.int .i64 x78]:List Value),0⟩] lv)=>?_
       have cz:Ag bq ([x78]:List Int) ([.int .i64 x78]:List Value):=⟨_,_,rfl,(Ac:rep bq (x78:Int) _),rfl⟩
       refine hK _ _ ?_
       obtain⟨x81,ex81,a1⟩:=Aq a1
       obtain⟨en,ju⟩:=A8 ex81
       refine wl fun K hK=>?_
       refine A3 1 8 1 _ (x81.length) _ ([.int .i64 x78]:List Value) ii fp rfl rfl (by decide) rfl (by rfl) (by kernel_rfl) (by rfl) (by rfl) (Ag.len cz) (fp.rowCell (i:=2) rfl) cz.one (by rw [en]; simp) (by rw [en]; exact ju) (by decide) fun cn cq e9 lg lx he (ij:Kn 118 (G4 g l m an x_v21) [tS 81 cn x81.length cq,tS 80 az 1 1,tI 79 x78,tS 75 ao x_v20.length ap,tI 14 x_v21,tS 9 d b.length f] lg) (c3:Ah ⟨w,h,Aj⟩ bq (G4 g l m an x_v21) [⟨C4 q r_ x s y u z,some 28⟩,⟨CB aa a ad ab ae ac af,some 50⟩,⟨CL ag t_ aj ah ak ai al,some 75⟩,⟨[],none⟩] [⟨d,b.length,f,3,1,aq,0⟩,⟨cn,x81.length,cq,3,1,a6++([.int .i64 x78]:List Value),e9⟩,⟨az,1,1,3,1,([.int .i64 x78]:List Value),0⟩] lx)=>?_
       have g3:Ag bq x81 (a6++([.int .i64 x78]:List Value)):=by rw [en]; exact Ag.append bv cz
       obtain rfl:e9=0:=Nat.le_zero.1 he
       refine hK _ _ ?_
       refine NG 7 1 [13,14,9] [tS 13 cn x81.length cq,tI 14 x_v21,tS 9 d b.length f] ij (AZ.peek c3.plOk c3 0 3 rfl rfl db [.int .i64 x78] (d0 _)) (by kernel_rfl) fun m7 il=>?_
       refine wf (XT (Aa (NG 0 4 [17,13,14,9] [tI 17 (IntKind.i64.wrap (((x81.length:Nat):Int)-1)),tS 13 cn x81.length cq,tI 14 x_v21,tS 9 d b.length f] il (AZ.peek c3.plOk c3 0 3 rfl rfl db [.int .i64 x78] (d0 _)) (by kernel_rfl) fun m8 im=>?_)))
       refine wf ?_
       obtain⟨cl,e6,a1⟩:=Aq a1
       refine Av (fun a' w'=>∃ (co:Option Addr)(cr:Nat)(dp:List Value)(eu:Array Value)(da:Ae),a' = ⟨eu,[]⟩∧Kn 118 (G4 g l m an x_v21) [tS 13 co cl.length cr,tI 14 x_v21,tS 9 d b.length f] eu∧Ah ⟨w,h,Aj⟩ da (G4 g l m an x_v21) [⟨C4 q r_ x s y u z,some 28⟩,⟨CB aa a ad ab ae ac af,some 50⟩,⟨CL ag t_ aj ah ak ai al,some 75⟩,⟨[],none⟩] [⟨d,b.length,f,3,1,aq,0⟩,⟨co,cl.length,cr,3,1,dp,0⟩,⟨az,1,1,3,1,([.int .i64 x78]:List Value),0⟩] w'∧Ae.le bq da∧Ag da cl dp) ?_ ?_
       ·
        refine wp_block ?_
        refine Ar (fun k4 a' w'=>∃ (x_v40:List Int)(x_v41:Int)(o:Option Addr)(p:Nat)(am:List Value)(ev:Array Value)(cb:Ae),a' = ⟨ev,[]⟩∧Kn 118 (G4 g l m an x_v21) (Ha x_v41 o x_v40 p x_v21 d b f) ev∧Ah ⟨w,h,Aj⟩ cb (G4 g l m an x_v21) [⟨C4 q r_ x s y u z,some 28⟩,⟨CB aa a ad ab ae ac af,some 50⟩,⟨CL ag t_ aj ah ak ai al,some 75⟩,⟨[],none⟩] (Oo d b f aq o x_v40 p am az x78) w'∧Ae.le bq cb∧Ag cb x_v40 am∧Di k4  x_v40 x_v41=some cl) ck ?_ ?_
        ·
         exact XY x81 ⟨IntKind.i64.wrap (((x81.length:Nat):Int)-1),cn,cq,a6++([.int .i64 x78]:List Value),_,_,rfl,im.kp,c3,Ae.le_refl _,g3,e6⟩
        ·
         rintro eo _ gm ⟨x_v40,x_v41,o,p,am,ev,cb,rfl,io,bx,ba,a5,ax⟩
         clear e6
         obtain _ | eo:=eo
         ·
          rw [Di] at ax; cases ax
         rw [Di] at ax
         replace bi:=bi.mono ba
         replace bj:=bj.mono ba
         replace bk:=bk.mono ba
         replace bc:=bc.mono ba
         replace bd:=bd.mono ba
         replace be:=be.mono ba
         replace bf:=bf.mono ba
         replace bg:=bg.mono ba
         replace bh:=bh.mono ba
         replace bm:=bm.mono ba
         replace cz:=cz.mono ba
         refine XT (XT ?_)
         obtain⟨gg,b3,ax⟩:=Aq ax
         refine Av (fun a' w'=>∃ (ew:Array Value)(a4:Ae),a' = ⟨ew,[]⟩∧Kn 118 (G4 g l m an x_v21) [tI 17 x_v41,tS 13 o x_v40.length p,tI 14 x_v21,tS 9 d b.length f,tB 98 gg] ew∧Ah ⟨w,h,Aj⟩ a4 (G4 g l m an x_v21) [⟨C4 q r_ x s y u z,some 28⟩,⟨CB aa a ad ab ae ac af,some 50⟩,⟨CL ag t_ aj ah ak ai al,some 75⟩,⟨[],none⟩] (Oo d b f aq o x_v40 p am az x78) w'∧Ae.le cb a4) ?_ ?_
         ·
          refine An (by kernel_rfl) ?_
          replace bx:=bx.drew
          refine Ao [] (G4 g l m an x_v21) [⟨C4 q r_ x s y u z,some 28⟩,⟨CB aa a ad ab ae ac af,some 50⟩,⟨CL ag t_ aj ah ak ai al,some 75⟩,⟨[],none⟩] ?_
          refine Dr [0,1,2] [2,1,0] ((tB 87 (decide (x_v41>0)))::(Ha x_v41 o x_v40 p x_v21 d b f)) io bx fun gj fk=>?_
          rcases Bool.eq_false_or_eq_true (decide (x_v41>0)) with cy | cy
          ·
           rw [cy,XW] at b3
           have ip:Kn 118 (G4 g l m an x_v21) ((tB 87 true)::(Ha x_v41 o x_v40 p x_v21 d b f)) gj:=(fk.setB 87 true (by rfl) cy).kp
           refine Dr [3,4] (dn 4) ((tI 89 x_v41)::(tS 88 o x_v40.length p)::(tB 87 true)::(Ha x_v41 o x_v40 p x_v21 d b f)) ip bx fun m9 fl=>?_
           obtain⟨x90,ex90,b3⟩:=Aq b3
           obtain⟨fy,f7,kw⟩:=Ai ex90
           have jv:=Cs fy f7
           obtain⟨l7,kk,g5⟩:=DA (sz:=1) rfl a5 kw
           obtain rfl:=kk
           obtain⟨c8,dc⟩:=CR bx (i:=1) rfl (b0:=0+(x_v41:Int).toNat*1) (Nat.lt_of_lt_of_le (Nat.lt_add_of_pos_right (by decide)) (Cr (sz:=1) rfl a5 jv))
           have ci:Ah ⟨w,h,Aj⟩ cb [(g,0),(l,0),(m,0),(an,0+(x_v21:Int).toNat*1),(c8,0+(x_v41:Int).toNat*1)] [⟨C4 q r_ x s y u z,some 28⟩,⟨CB aa a ad ab ae ac af,some 50⟩,⟨CL ag t_ aj ah ak ai al,some 75⟩,⟨[],none⟩,⟨[],none⟩] (Oo d b f aq o x_v40 p am az x78) (World.drew gm):=bx.addPlc (cs:=[]) (fun j c hj=>by simp at hj) rfl (by kernel_rfl) (by kernel_rfl)
           have d1:∀ (e:Ba) k c,([.int .i64 x90]:List SC)[k]? = some c→(am)[0+(x_v41:Int).toNat*1+k]? = some (c.den e):=fun e k c hk=>g5 k _ (Al hk)
           refine Ax 5 (x_v41) [.int .i64 x90] (fun _ _ _ _ _ h=>h) rfl rfl (Ak fl (by kernel_rfl)) rfl (by decide) (by kernel_rfl) (by kernel_rfl) fl bx.plOk (by rfl) (by rfl) (by rfl) dc (by rfl) fy f7 (by kernel_rfl) fun li (iq:Kn 118 [(g,0),(l,0),(m,0),(an,0+(x_v21:Int).toNat*1),(c8,0+(x_v41:Int).toNat*1)] ((tP 90 4 0)::(tI 89 x_v41)::(tS 88 o x_v40.length p)::(tB 87 true)::(Ha x_v41 o x_v40 p x_v21 d b f)) li)=>?_
           refine II [6,7,8,9] [9,8,7,6,5,4,3,2,1,0] [94,92,91,87,17,13,14,9] ((tI 94 (IntKind.i64.wrap (x_v41-1)))::(tS 92 o x_v40.length p)::(tI 91 x90)::(tB 87 true)::(Ha x_v41 o x_v40 p x_v21 d b f)) (fun _ _ _ _ _ h=>h) iq (AZ.peek ci.plOk ci 1 4 rfl rfl dc [.int .i64 x90] (d1 _)) (by kernel_rfl) (by rfl) (by kernel_rfl) fun na fm=>?_
           obtain⟨x95,ex95,b3⟩:=Aq b3
           obtain⟨fz,f8,kx⟩:=Ai ex95
           have jw:=Cs fz f8
           obtain⟨l8,kl,g6⟩:=DA (sz:=1) rfl a5 kx
           obtain rfl:=kl
           obtain⟨e3,fc⟩:=CR ci (i:=1) rfl (b0:=0+(IntKind.i64.wrap (x_v41-1):Int).toNat*1) (Nat.lt_of_lt_of_le (Nat.lt_add_of_pos_right (by decide)) (Cr (sz:=1) rfl a5 jw))
           have di:Ah ⟨w,h,Aj⟩ cb [(g,0),(l,0),(m,0),(an,0+(x_v21:Int).toNat*1),(c8,0+(x_v41:Int).toNat*1),(e3,0+(IntKind.i64.wrap (x_v41-1):Int).toNat*1)] [⟨C4 q r_ x s y u z,some 28⟩,⟨CB aa a ad ab ae ac af,some 50⟩,⟨CL ag t_ aj ah ak ai al,some 75⟩,⟨[],none⟩,⟨[],none⟩,⟨[],none⟩] (Oo d b f aq o x_v40 p am az x78) (World.drew gm):=ci.addPlc (cs:=[]) (fun j c hj=>by simp at hj) rfl (by kernel_rfl) (by kernel_rfl)
           have g7:∀ (e:Ba) k c,([.int .i64 x95]:List SC)[k]? = some c→(am)[0+(IntKind.i64.wrap (x_v41-1):Int).toNat*1+k]? = some (c.den e):=fun e k c hk=>g6 k _ (Al hk)
           refine Ax 10 (IntKind.i64.wrap (x_v41-1)) [.int .i64 x95] (fun _ _ _ _ _ h=>h) rfl rfl (Ak fm (by kernel_rfl)) rfl (by decide) (by kernel_rfl) (by kernel_rfl) fm (AZ.peek ci.plOk ci 1 4 rfl rfl dc [.int .i64 x90] (d1 _)) (by rfl) (by rfl) (by rfl) fc (by rfl) fz f8 (by kernel_rfl) fun lj (iu:Kn 118 [(g,0),(l,0),(m,0),(an,0+(x_v21:Int).toNat*1),(c8,0+(x_v41:Int).toNat*1),(e3,0+(IntKind.i64.wrap (x_v41-1):Int).toNat*1)] ((tP 95 5 0)::(tI 94 (IntKind.i64.wrap (x_v41-1)))::(tS 92 o x_v40.length p)::(tI 91 x90)::(tB 87 true)::(Ha x_v41 o x_v40 p x_v21 d b f)) lj)=>?_
           refine II [11,12,13] [13,12,11,10,9,8,7,6,5,4,3,2,1,0] [98,17,13,14,9] ((tB 98 (decide (x90<x95)))::(Ha x_v41 o x_v40 p x_v21 d b f)) (fun _ _ _ _ _ h=>h) iu (AZ.peek (AZ.peek di.plOk di 1 4 rfl rfl dc [.int .i64 x90] (d1 _)) di 1 5 rfl rfl fc [.int .i64 x95] (g7 _)) (by kernel_rfl) (by rfl) (by kernel_rfl) fun nb iv=>?_
           refine Ay (by kernel_rfl) ?_
           obtain rfl:=XZ b3
           exact XY _ ⟨_,rfl,(iv.keep [17,13,14,9,98] (by rfl)).cut 4 (by kernel_rfl),di.cutPl 4 (by kernel_rfl),Ae.le_refl _⟩
          ·
           rw [cy,XV] at b3
           have iw:Kn 118 (G4 g l m an x_v21) ((tB 87 false)::(Ha x_v41 o x_v40 p x_v21 d b f)) gj:=(fk.setB 87 false (by rfl) cy).kp
           refine Dr [3,4,5,6,7,8,9,10,11,12,13] (dn 13) ((tB 98 false)::(Ha x_v41 o x_v40 p x_v21 d b f)) iw bx fun nc ix=>?_
           refine Ay (by kernel_rfl) ?_
           obtain rfl:=XZ b3
           exact XY _ ⟨_,rfl,ix.kp,bx,Ae.le_refl _⟩
         ·
          rintro _ e0 ⟨ew,a4,rfl,d7,cd,ec⟩
          replace a5:=a5.mono ec
          refine wC (gg) d7 (fun dw=>?_) (fun dw=>?_)
          ·
           rw [dw,XW] at ax
           refine wp_skip (XT (wp_block (An (by kernel_rfl) ?_)))
           replace cd:=cd.drew
           refine Ao [] (G4 g l m an x_v21) [⟨C4 q r_ x s y u z,some 28⟩,⟨CB aa a ad ab ae ac af,some 50⟩,⟨CL ag t_ aj ah ak ai al,some 75⟩,⟨[],none⟩] ?_
           refine Dr [0,1,2,3,4,5,6,7] (dn 7) ((tI 108 (IntKind.i64.wrap (x_v41-1)))::(tS 106 o x_v40.length p)::(Mv x_v41 o x_v40 p x_v21 d b f)) d7 cd fun nd iy=>?_
           obtain⟨x109,ex109,ax⟩:=Aq ax
           obtain⟨f0,f9,ky⟩:=Ai ex109
           have jx:=Cs f0 f9
           obtain⟨l9,km,g8⟩:=DA (sz:=1) rfl a5 ky
           obtain rfl:=km
           obtain⟨ay,cw⟩:=CR cd (i:=1) rfl (b0:=0+(IntKind.i64.wrap (x_v41-1):Int).toNat*1) (Nat.lt_of_lt_of_le (Nat.lt_add_of_pos_right (by decide)) (Cr (sz:=1) rfl a5 jx))
           have cj:Ah ⟨w,h,Aj⟩ a4 [(g,0),(l,0),(m,0),(an,0+(x_v21:Int).toNat*1),(ay,0+(IntKind.i64.wrap (x_v41-1):Int).toNat*1)] [⟨C4 q r_ x s y u z,some 28⟩,⟨CB aa a ad ab ae ac af,some 50⟩,⟨CL ag t_ aj ah ak ai al,some 75⟩,⟨[],none⟩,⟨[],none⟩] (Oo d b f aq o x_v40 p am az x78) (World.drew e0):=cd.addPlc (cs:=[]) (fun j c hj=>by simp at hj) rfl (by kernel_rfl) (by kernel_rfl)
           have de:∀ (e:Ba) k c,([.int .i64 x109]:List SC)[k]? = some c→(am)[0+(IntKind.i64.wrap (x_v41-1):Int).toNat*1+k]? = some (c.den e):=fun e k c hk=>g8 k _ (Al hk)
           refine Ax 8 (IntKind.i64.wrap (x_v41-1)) [.int .i64 x109] (fun _ _ _ _ _ h=>h) rfl rfl (rfl) rfl (by decide) (by kernel_rfl) (by kernel_rfl) iy cd.plOk (by rfl) (by rfl) (by rfl) cw (by rfl) f0 f9 (by kernel_rfl) fun ll (iz:Kn 118 [(g,0),(l,0),(m,0),(an,0+(x_v21:Int).toNat*1),(ay,0+(IntKind.i64.wrap (x_v41-1):Int).toNat*1)] ((tP 109 4 0)::(tI 108 (IntKind.i64.wrap (x_v41-1)))::(tS 106 o x_v40.length p)::(Mv x_v41 o x_v40 p x_v21 d b f)) ll)=>?_
           refine II [9,10,11] [11,10,9,8,7,6,5,4,3,2,1,0] [112,111,110,105,103,102,101,17,13,14,9] ((tI 112 x_v41)::(tS 111 o x_v40.length p)::(tI 110 x109)::(Mv x_v41 o x_v40 p x_v21 d b f)) (fun _ _ _ _ _ h=>h) iz (AZ.peek cj.plOk cj 1 4 rfl rfl cw [.int .i64 x109] (de _)) (by kernel_rfl) (by rfl) (by kernel_rfl) fun nf i0=>?_
           obtain⟨x113,ex113,ax⟩:=Aq ax
           obtain⟨f1,ga,kz⟩:=Ai ex113
           have jy:=Cs f1 ga
           obtain⟨ma,kn,g9⟩:=DA (sz:=1) rfl a5 kz
           obtain rfl:=kn
           obtain⟨a0,dr⟩:=CR cj (i:=1) rfl (b0:=0+(x_v41:Int).toNat*1) (Nat.lt_of_lt_of_le (Nat.lt_add_of_pos_right (by decide)) (Cr (sz:=1) rfl a5 jy))
           have b5:Ah ⟨w,h,Aj⟩ a4 [(g,0),(l,0),(m,0),(an,0+(x_v21:Int).toNat*1),(ay,0+(IntKind.i64.wrap (x_v41-1):Int).toNat*1),(a0,0+(x_v41:Int).toNat*1)] [⟨C4 q r_ x s y u z,some 28⟩,⟨CB aa a ad ab ae ac af,some 50⟩,⟨CL ag t_ aj ah ak ai al,some 75⟩,⟨[],none⟩,⟨[],none⟩,⟨[],none⟩] (Oo d b f aq o x_v40 p am az x78) (World.drew e0):=cj.addPlc (cs:=[]) (fun j c hj=>by simp at hj) rfl (by kernel_rfl) (by kernel_rfl)
           have fg:∀ (e:Ba) k c,([.int .i64 x113]:List SC)[k]? = some c→(am)[0+(x_v41:Int).toNat*1+k]? = some (c.den e):=fun e k c hk=>g9 k _ (Al hk)
           refine Ax 12 (x_v41) [.int .i64 x113] (fun _ _ _ _ _ h=>h) rfl rfl (rfl) rfl (by decide) (by kernel_rfl) (by kernel_rfl) i0 (AZ.peek cj.plOk cj 1 4 rfl rfl cw [.int .i64 x109] (de _)) (by rfl) (by rfl) (by rfl) dr (by rfl) f1 ga (by kernel_rfl) fun lm (i2:Kn 118 [(g,0),(l,0),(m,0),(an,0+(x_v21:Int).toNat*1),(ay,0+(IntKind.i64.wrap (x_v41-1):Int).toNat*1),(a0,0+(x_v41:Int).toNat*1)] ((tP 113 5 0)::(tI 112 x_v41)::(tS 111 o x_v40.length p)::(tI 110 x109)::(Mv x_v41 o x_v40 p x_v21 d b f)) lm)=>?_
           refine II [13] [13,12,11,10,9,8,7,6,5,4,3,2,1,0] [114,110,105,103,102,101,17,13,14,9] ((tI 114 x113)::(tI 110 x109)::(Mv x_v41 o x_v40 p x_v21 d b f)) (fun _ _ _ _ _ h=>h) i2 (AZ.peek (AZ.peek b5.plOk b5 1 4 rfl rfl cw [.int .i64 x109] (de _)) b5 1 5 rfl rfl dr [.int .i64 x113] (fg _)) (by kernel_rfl) (by rfl) (by kernel_rfl) fun ng i3=>?_
           obtain⟨x115,ex115,ax⟩:=Aq ax
           obtain⟨f2,gb,k0⟩:=Ai ex115
           have d9:=Cs f2 gb
           obtain⟨mb,ko,ha⟩:=DA (sz:=1) rfl a5 k0
           obtain rfl:=ko
           obtain⟨a3,fd⟩:=CR b5 (i:=1) rfl (b0:=0+(x_v41:Int).toNat*1) (Nat.lt_of_lt_of_le (Nat.lt_add_of_pos_right (by decide)) (Cr (sz:=1) rfl a5 d9))
           have j4:Ah ⟨w,h,Aj⟩ a4 (S6 g l m an x_v21 ay x_v41 a0 a3) [⟨C4 q r_ x s y u z,some 28⟩,⟨CB aa a ad ab ae ac af,some 50⟩,⟨CL ag t_ aj ah ak ai al,some 75⟩,⟨[],none⟩,⟨[],none⟩,⟨[],none⟩,⟨[],none⟩] (Oo d b f aq o x_v40 p am az x78) (World.drew e0):=b5.addPlc (cs:=[]) (fun j c hj=>by simp at hj) rfl (by kernel_rfl) (by kernel_rfl)
           have md:∀ (e:Ba) k c,([.int .i64 x115]:List SC)[k]? = some c→(am)[0+(x_v41:Int).toNat*1+k]? = some (c.den e):=fun e k c hk=>ha k _ (Al hk)
           refine Ax 14 (x_v41) [.int .i64 x115] (fun _ _ _ _ _ h=>h) rfl rfl (rfl) rfl (by decide) (by kernel_rfl) (by kernel_rfl) i3 (AZ.peek (AZ.peek b5.plOk b5 1 4 rfl rfl cw [.int .i64 x109] (de _)) b5 1 5 rfl rfl dr [.int .i64 x113] (fg _)) (by rfl) (by rfl) (by rfl) fd (by rfl) f2 gb (by kernel_rfl) fun gk (i4:Kn 118 (S6 g l m an x_v21 ay x_v41 a0 a3) ((tP 115 6 0)::(tI 114 x113)::(tI 110 x109)::(Mv x_v41 o x_v40 p x_v21 d b f)) gk)=>?_
           obtain⟨bp,gp,ax⟩:=Aq ax
           obtain⟨mg,mi,gd⟩:=F4 gp
           refine D8 15 rfl (by kernel_rfl) (by decide) (rfl) (by kernel_rfl) fun K hK=>?_
           refine Gf 1 6 0 (0+(x_v41:Int).toNat*1) (.c (.int .i64 x109)) i4 j4 rfl rfl (by rfl) (by rfl) rfl rfl fd rfl (by kernel_rfl) (Cr (sz:=1) rfl a5 d9) fun e1 i5 (j5:Ah ⟨w,h,Aj⟩ a4 (S6 g l m an x_v21 ay x_v41 a0 a3) [⟨C4 q r_ x s y u z,some 28⟩,⟨CB aa a ad ab ae ac af,some 50⟩,⟨CL ag t_ aj ah ak ai al,some 75⟩,⟨[],none⟩,⟨[],none⟩,⟨[],none⟩,⟨[],none⟩] [⟨d,b.length,f,3,1,aq,0⟩,⟨o,x_v40.length,p,3,1,am.take (0+(x_v41:Int).toNat*1+0)++([.int .i64 x109]:List Value)++am.drop (0+(x_v41:Int).toNat*1+0+1),0⟩,⟨az,1,1,3,1,([.int .i64 x78]:List Value),0⟩] e1)=>?_
           have df:Ag a4 bp (am.take (0+(x_v41:Int).toNat*1+0)++([.int .i64 x109]:List Value)++am.drop (0+(x_v41:Int).toNat*1+0+1)):=by rw [gd]; exact Kh (sz:=1) rfl a5 d9 (Ac:rep a4 (x109:Int) _)
           have ft:x_v40.length=bp.length:=by rw [gd]; simp
           have i6:Kn 118 [(g,0),(l,0),(m,0),(an,0+(x_v21:Int).toNat*1),(ay,0+(IntKind.i64.wrap (x_v41-1):Int).toNat*1),(a0,0+(x_v41:Int).toNat*1),(a3,0+(x_v41:Int).toNat*1)] [(115,.one (.c (.ptr 6 0))),(114,.one (.c (.int .i64 x113))),(110,.one (.c (.int .i64 x109))),(105,.one (.c (.int .i64 (IntKind.i64.wrap (x_v41-1))))),(103,.one (.c (.slice o bp.length p))),(102,.one (.c (.int .i64 x_v41))),(101,.one (.c (.slice o bp.length p))),(17,.one (.c (.int .i64 x_v41))),(13,.one (.c (.slice o bp.length p))),(14,.one (.c (.int .i64 x_v21))),(9,.one (.c (.slice d b.length f)))] gk:=by rw [← ft]; exact i5
           have eh:Ah ⟨w,h,Aj⟩ a4 [(g,0),(l,0),(m,0),(an,0+(x_v21:Int).toNat*1),(ay,0+(IntKind.i64.wrap (x_v41-1):Int).toNat*1),(a0,0+(x_v41:Int).toNat*1),(a3,0+(x_v41:Int).toNat*1)] [⟨[.slice q r_.legs.length x,.int .i64 r_.turn.lo,.int .i64 r_.turn.hi,.slice s r_.buses.length y,.slice u r_.spares.length z,.int .i64 r_.unit,.int .i64 r_.gap,.int .i64 r_.fr,.int .i64 r_.to_],some 28⟩,⟨[.slice aa a.holds.length ad,.slice ab a.turns.length ae,.slice ac a.spares.length af],some 50⟩,⟨[.slice ag t_.tm.length aj,.slice ah t_.turns.length ak,.slice ai t_.legs.length al],some 75⟩,⟨[],none⟩,⟨[],none⟩,⟨[],none⟩,⟨[],none⟩] [⟨d,b.length,f,3,1,aq,0⟩,⟨o,bp.length,p,3,1,am.take (0+(x_v41:Int).toNat*1+0)++([.int .i64 x109]:List Value)++am.drop (0+(x_v41:Int).toNat*1+0+1),0⟩,⟨az,1,1,3,1,([.int .i64 x78]:List Value),0⟩] e1:=by rw [← ft]; exact j5
           refine hK _ _ ?_
           refine Ao [] (S6 g l m an x_v21 ay x_v41 a0 a3) [⟨C4 q r_ x s y u z,some 28⟩,⟨CB aa a ad ab ae ac af,some 50⟩,⟨CL ag t_ aj ah ak ai al,some 75⟩,⟨[],none⟩,⟨[],none⟩,⟨[],none⟩,⟨[],none⟩] ?_
           obtain⟨x116,ex116,ax⟩:=Aq ax
           obtain⟨f3,gc,k1⟩:=Ai ex116
           have ea:=Cs f3 gc
           obtain⟨mc,kq,hb⟩:=DA (sz:=1) rfl df k1
           obtain rfl:=kq
           obtain⟨b2,fe⟩:=CR eh (i:=1) rfl (b0:=0+(IntKind.i64.wrap (x_v41-1):Int).toNat*1) (Nat.lt_of_lt_of_le (Nat.lt_add_of_pos_right (by decide)) (Cr (sz:=1) rfl df ea))
           have j6:Ah ⟨w,h,Aj⟩ a4 (S7 g l m an x_v21 ay x_v41 a0 a3 b2) [⟨C4 q r_ x s y u z,some 28⟩,⟨CB aa a ad ab ae ac af,some 50⟩,⟨CL ag t_ aj ah ak ai al,some 75⟩,⟨[],none⟩,⟨[],none⟩,⟨[],none⟩,⟨[],none⟩,⟨[],none⟩] [⟨d,b.length,f,3,1,aq,0⟩,⟨o,bp.length,p,3,1,am.take (0+(x_v41:Int).toNat*1+0)++([.int .i64 x109]:List Value)++am.drop (0+(x_v41:Int).toNat*1+0+1),0⟩,⟨az,1,1,3,1,([.int .i64 x78]:List Value),0⟩] e1:=eh.addPlc (cs:=[]) (fun j c hj=>by simp at hj) rfl (by kernel_rfl) (by kernel_rfl)
           have me:∀ (e:Ba) k c,([.int .i64 x116]:List SC)[k]? = some c→((am.take (0+(x_v41:Int).toNat*1+0)++([.int .i64 x109]:List Value)++am.drop (0+(x_v41:Int).toNat*1+0+1)))[0+(IntKind.i64.wrap (x_v41-1):Int).toNat*1+k]? = some (c.den e):=fun e k c hk=>hb k _ (Al hk)
           refine Ax 16 (IntKind.i64.wrap (x_v41-1)) [.int .i64 x116] (fun _ _ _ _ _ h=>h) rfl rfl (rfl) rfl (by decide) (by kernel_rfl) (by kernel_rfl) i6 eh.plOk (by rfl) (by rfl) (by rfl) fe (by rfl) f3 gc (by kernel_rfl) fun ex (i8:Kn 118 (S7 g l m an x_v21 ay x_v41 a0 a3 b2) [tP 116 7 0,tP 115 6 0,tI 114 x113,tI 110 x109,tI 105 (IntKind.i64.wrap (x_v41-1)),tS 103 o bp.length p,tI 102 x_v41,tS 101 o bp.length p,tI 17 x_v41,tS 13 o bp.length p,tI 14 x_v21,tS 9 d b.length f] ex)=>?_
           obtain⟨bz,gq,ax⟩:=Aq ax
           obtain⟨mh,mj,gf⟩:=F4 gq
           refine D8 17 rfl (by kernel_rfl) (by decide) (rfl) (by kernel_rfl) fun K hK=>?_
           refine Gf 1 7 0 (0+(IntKind.i64.wrap (x_v41-1):Int).toNat*1) (.c (.int .i64 x113)) i8 j6 rfl rfl (by rfl) (by rfl) rfl rfl fe rfl (by kernel_rfl) (Cr (sz:=1) rfl df ea) fun gn i9 (j7:Ah ⟨w,h,Aj⟩ a4 (S7 g l m an x_v21 ay x_v41 a0 a3 b2) [⟨C4 q r_ x s y u z,some 28⟩,⟨CB aa a ad ab ae ac af,some 50⟩,⟨CL ag t_ aj ah ak ai al,some 75⟩,⟨[],none⟩,⟨[],none⟩,⟨[],none⟩,⟨[],none⟩,⟨[],none⟩] [⟨d,b.length,f,3,1,aq,0⟩,⟨o,bp.length,p,3,1,(am.take (0+(x_v41:Int).toNat*1+0)++([.int .i64 x109]:List Value)++am.drop (0+(x_v41:Int).toNat*1+0+1)).take (0+(IntKind.i64.wrap (x_v41-1):Int).toNat*1+0)++([.int .i64 x113]:List Value)++(am.take (0+(x_v41:Int).toNat*1+0)++([.int .i64 x109]:List Value)++am.drop (0+(x_v41:Int).toNat*1+0+1)).drop (0+(IntKind.i64.wrap (x_v41-1):Int).toNat*1+0+1),0⟩,⟨az,1,1,3,1,([.int .i64 x78]:List Value),0⟩] gn)=>?_
           have hc:Ag a4 bz ((am.take (0+(x_v41:Int).toNat*1+0)++([.int .i64 x109]:List Value)++am.drop (0+(x_v41:Int).toNat*1+0+1)).take (0+(IntKind.i64.wrap (x_v41-1):Int).toNat*1+0)++([.int .i64 x113]:List Value)++(am.take (0+(x_v41:Int).toNat*1+0)++([.int .i64 x109]:List Value)++am.drop (0+(x_v41:Int).toNat*1+0+1)).drop (0+(IntKind.i64.wrap (x_v41-1):Int).toNat*1+0+1)):=by rw [gf]; exact Kh (sz:=1) rfl df ea (Ac:rep a4 (x113:Int) _)
           have fu:bp.length=bz.length:=by rw [gf]; simp
           have jb:Kn 118 [(g,0),(l,0),(m,0),(an,0+(x_v21:Int).toNat*1),(ay,0+(IntKind.i64.wrap (x_v41-1):Int).toNat*1),(a0,0+(x_v41:Int).toNat*1),(a3,0+(x_v41:Int).toNat*1),(b2,0+(IntKind.i64.wrap (x_v41-1):Int).toNat*1)] [(116,.one (.c (.ptr 7 0))),(115,.one (.c (.ptr 6 0))),(114,.one (.c (.int .i64 x113))),(110,.one (.c (.int .i64 x109))),(105,.one (.c (.int .i64 (IntKind.i64.wrap (x_v41-1))))),(103,.one (.c (.slice o bz.length p))),(102,.one (.c (.int .i64 x_v41))),(101,.one (.c (.slice o bz.length p))),(17,.one (.c (.int .i64 x_v41))),(13,.one (.c (.slice o bz.length p))),(14,.one (.c (.int .i64 x_v21))),(9,.one (.c (.slice d b.length f)))] ex:=by rw [← fu]; exact i9
           have fq:Ah ⟨w,h,Aj⟩ a4 [(g,0),(l,0),(m,0),(an,0+(x_v21:Int).toNat*1),(ay,0+(IntKind.i64.wrap (x_v41-1):Int).toNat*1),(a0,0+(x_v41:Int).toNat*1),(a3,0+(x_v41:Int).toNat*1),(b2,0+(IntKind.i64.wrap (x_v41-1):Int).toNat*1)] [⟨[.slice q r_.legs.length x,.int .i64 r_.turn.lo,.int .i64 r_.turn.hi,.slice s r_.buses.length y,.slice u r_.spares.length z,.int .i64 r_.unit,.int .i64 r_.gap,.int .i64 r_.fr,.int .i64 r_.to_],some 28⟩,⟨[.slice aa a.holds.length ad,.slice ab a.turns.length ae,.slice ac a.spares.length af],some 50⟩,⟨[.slice ag t_.tm.length aj,.slice ah t_.turns.length ak,.slice ai t_.legs.length al],some 75⟩,⟨[],none⟩,⟨[],none⟩,⟨[],none⟩,⟨[],none⟩,⟨[],none⟩] [⟨d,b.length,f,3,1,aq,0⟩,⟨o,bz.length,p,3,1,(am.take (0+(x_v41:Int).toNat*1+0)++([.int .i64 x109]:List Value)++am.drop (0+(x_v41:Int).toNat*1+0+1)).take (0+(IntKind.i64.wrap (x_v41-1):Int).toNat*1+0)++([.int .i64 x113]:List Value)++(am.take (0+(x_v41:Int).toNat*1+0)++([.int .i64 x109]:List Value)++am.drop (0+(x_v41:Int).toNat*1+0+1)).drop (0+(IntKind.i64.wrap (x_v41-1):Int).toNat*1+0+1),0⟩,⟨az,1,1,3,1,([.int .i64 x78]:List Value),0⟩] gn:=by rw [← fu]; exact j7
           refine hK _ _ ?_
           have jc:Kn 118 (S7 g l m an x_v21 ay x_v41 a0 a3 b2) [tI 17 x_v41,tS 13 o bz.length p,tI 14 x_v21,tS 9 d b.length f] ex:=jb.kp
           refine GB (by kernel_rfl) (Aa (Rk 0 3 [tI 17 (IntKind.i64.wrap (x_v41-1)),tS 13 o bz.length p,tI 14 x_v21,tS 9 d b.length f] jc fq fun nj jd=>?_))
           refine wf ?_
           exact XY eo ⟨Nat.lt_succ_self _,XY bz ⟨IntKind.i64.wrap (x_v41-1),o,p,(am.take (0+(x_v41:Int).toNat*1+0)++([.int .i64 x109]:List Value)++am.drop (0+(x_v41:Int).toNat*1+0+1)).take (0+(IntKind.i64.wrap (x_v41-1):Int).toNat*1+0)++([.int .i64 x113]:List Value)++(am.take (0+(x_v41:Int).toNat*1+0)++([.int .i64 x109]:List Value)++am.drop (0+(x_v41:Int).toNat*1+0+1)).drop (0+(IntKind.i64.wrap (x_v41-1):Int).toNat*1+0+1),_,_,rfl,(jd.keep [17,13,14,9] (by rfl)).cut 4 (by kernel_rfl),fq.cutPl 4 (by kernel_rfl),XU ba ec,hc,ax⟩⟩
          ·
           rw [dw,XV] at ax
           refine wp_exit ?_
           obtain rfl:=XZ ax
           exact XY o ⟨p,am,_,_,rfl,d7.kp,cd,XU ba ec,a5⟩
       ·
        rintro _ nx ⟨co,cr,dp,eu,da,rfl,je,fs,jz,g4⟩
        refine Aa (Rk 0 3 [tI 14 (IntKind.i64.wrap (x_v21+1)),tS 13 co cl.length cr,tS 9 d b.length f] je fs fun nk jf=>?_)
        refine wf ?_
        exact XY ck ⟨Nat.lt_succ_self _,XY cl ⟨IntKind.i64.wrap (x_v21+1),co,cr,dp,_,_,rfl,(jf.keep [14,13,9] (by rfl)).cut 3 (by kernel_rfl),(fs.cutRw 2).cutPl 3 (by kernel_rfl),XU a8 (XU a9 jz),g4,a1⟩⟩
    ·
     rw [dt,XV] at a1
     refine wp_exit ?_
     obtain rfl:=XZ a1
     exact XY ao ⟨ap,a6,_,_,rfl,d4.kp,c2,a8,bv⟩
  ·
   rintro _ l0 ⟨b8,ca,c5,ep,c9,rfl,jg,ei,mf,dz⟩
   refine XT (Aa (Rk 0 2 [tS 8 b8 b6.length ca] jg ei fun nl jh=>?_))
   refine wf (wp_ret ?_)
   obtain⟨fa,j0,ke,ej⟩:=ei.settle (i:=1) rfl
   replace dz:=dz.mono j0
   replace ej:Ah ⟨w,h,Aj⟩ fa [(g,0),(l,0),(m,0)] (JH q r_ x s y u z aa a ad ab ae ac af ag t_ aj ah ak ai al) [⟨d,b.length,f,3,1,aq,0⟩,⟨b8,b6.length,ca,3,1,c5,(c5:List Value).length⟩] l0:=ej
   have kd:A6 fa b8 ca b6:=⟨_,dz,ke,ei.rowCap (i:=1) rfl⟩
   obtain rfl:=XZ H
   exact rt (.one (.c (.slice b8 b6.length ca))) jh ej ⟨_,_,rfl,kd⟩
abbrev Hq (x:Option Addr) (t_:Bd) (ab:Nat) (y:Option Addr) (ac:Nat) (z:Option Addr) (ad:Nat):List SC:=[.slice x t_.tm.length ab,.slice y t_.turns.length ac,.slice z t_.legs.length ad]
abbrev Hb (k:Option Addr) (a:Am) (p:Nat) (l:Option Addr) (q:Nat) (m:Option Addr) (s:Nat):List SC:=[.slice k a.holds.length p,.slice l a.turns.length q,.slice m a.spares.length s]
abbrev G5 (b:Option Addr) (r_:Af) (f:Nat) (d:Option Addr) (g:Nat) (e:Option Addr) (i:Nat):List SC:=[.slice b r_.legs.length f,.int .i64 r_.turn.lo,.int .i64 r_.turn.hi,.slice d r_.buses.length g,.slice e r_.spares.length i,.int .i64 r_.unit,.int .i64 r_.gap,.int .i64 r_.fr,.int .i64 r_.to_]
set_option maxRecDepth 100000 in
set_option maxHeartbeats 4000000 in
theorem Sb (n:Nat) {h:Ae} {w:World} (hh:Dn h w) (r_:Af) {cs_r_:List Value} (hx_r_:rep h r_ cs_r_) (a:Am) {cs_a:List Value} (hx_a:rep h a cs_a) (t_:Bd) {cs_t_:List Value} (hx_t_:rep h t_ cs_t_) (stop:Int) {r:Int} (H:Lq n r_ a t_ stop=some r) :
  Calls Try.prog 40 #[.agg cs_r_.toArray,.agg cs_a.toArray,.agg cs_t_.toArray,.int .i64 stop] w (Dp (fun h v=>v=.int .i64 r) h w):=by
 obtain⟨_,_,rfl,⟨b,f,rfl,a4⟩,⟨_,_,rfl,⟨_,_,rfl,rfl,rfl⟩,⟨_,_,rfl,⟨d,g,rfl,a5⟩,⟨_,_,rfl,⟨e,i,rfl,a6⟩,⟨_,_,rfl,rfl,⟨_,_,rfl,rfl,⟨_,_,rfl,rfl,rfl⟩⟩⟩⟩⟩⟩⟩:=hx_r_
 obtain⟨_,_,rfl,⟨k,p,rfl,ay⟩,⟨_,_,rfl,⟨l,q,rfl,az⟩,⟨m,s,rfl,a0⟩⟩⟩:=hx_a
 obtain⟨_,_,rfl,⟨x,ab,rfl,a1⟩,⟨_,_,rfl,⟨y,ac,rfl,a2⟩,⟨z,ad,rfl,a3⟩⟩⟩:=hx_t_
 refine enter 36 [.agg (G5 b r_ f d g e i),.agg (Hb k a p l q m s),.agg (Hq x t_ ab y ac z ad),.c (.int .i64 stop)] Try.func40 rfl rfl rfl rfl fun t hk=>?_
 have hm:=Ah.begin h w hh
 unfold Lq at H
 refine XT (Aa (wl fun K hK=>?_))
 refine wb (.agg (G5 b r_ f d g e i)) hk hm fun aa cg cl (bq:Kn 36 [(aa,0)] [tP 4 0 0,tA 0 (G5 b r_ f d g e i),tA 1 (Hb k a p l q m s),tA 2 (Hq x t_ ab y ac z ad),tI 3 stop] cg) (b4:Ah ⟨w,h,Aj⟩ h [(aa,0)] [⟨G5 b r_ f d g e i,some 28⟩] [] cl)=>hK _ _ ?_
 refine wl fun K hK=>?_
 refine wb (.agg (Hb k a p l q m s)) bq b4 fun ae ch cm (br:Kn 36 [(aa,0),(ae,0)] [tP 5 1 0,tP 4 0 0,tA 0 (G5 b r_ f d g e i),tA 1 (Hb k a p l q m s),tA 2 (Hq x t_ ab y ac z ad),tI 3 stop] ch) (b5:Ah ⟨w,h,Aj⟩ h [(aa,0),(ae,0)] [⟨G5 b r_ f d g e i,some 28⟩,⟨Hb k a p l q m s,some 50⟩] [] cm)=>hK _ _ ?_
 refine wl fun K hK=>?_
 refine wb (.agg (Hq x t_ ab y ac z ad)) br b5 fun af ci cn (bs:Kn 36 [(aa,0),(ae,0),(af,0)] [tP 6 2 0,tP 5 1 0,tP 4 0 0,tA 0 (G5 b r_ f d g e i),tA 1 (Hb k a p l q m s),tA 2 (Hq x t_ ab y ac z ad),tI 3 stop] ci) (al:Ah ⟨w,h,Aj⟩ h [(aa,0),(ae,0),(af,0)] [⟨G5 b r_ f d g e i,some 28⟩,⟨Hb k a p l q m s,some 50⟩,⟨Hq x t_ ab y ac z ad,some 75⟩] [] cn)=>hK _ _ ?_
 refine Rk 3 1 [tP 6 2 0,tP 5 1 0,tP 4 0 0,tI 3 stop] bs al fun cv bt=>?_
 refine wf (XT (Aa (Rk 0 4 [tI 15 stop,tA 14 (Hq x t_ ab y ac z ad),tA 13 (Hb k a p l q m s),tA 12 (G5 b r_ f d g e i)] bt al fun cw bu=>?_)))
 obtain⟨x16,ex16,H⟩:=Aq H
 refine wl fun K hK=>?_
 refine wc [.agg (G5 b r_ f d g e i),.agg (Hb k a p l q m s),.agg (Hq x t_ ab y ac z ad),.c (.int .i64 stop)] bu al (Qp n al.has r_ ((Ab (Ad a4) (Ab (Ab Ac Ac) (Ab (Ad a5) (Ab (Ad a6) (Ab Ac (Ab Ac (Ab Ac Ac))))))):rep h r_ _) a ((Ab (Ad ay) (Ab (Ad az) (Ad a0))):rep h a _) t_ ((Ab (Ad a1) (Ab (Ad a2) (Ad a3))):rep h t_ _) stop ex16) fun c3 bc c5 bg ah am=>?_
 replace a4:=a4.mono ah
 replace a5:=a5.mono ah
 replace a6:=a6.mono ah
 replace ay:=ay.mono ah
 replace az:=az.mono ah
 replace a0:=a0.mono ah
 replace a1:=a1.mono ah
 replace a2:=a2.mono ah
 replace a3:=a3.mono ah
 obtain⟨o,u,rfl,an⟩:=bg
 refine⟨.one (.c (.slice o x16.length u)),rfl,fun cj (bv:Kn 36 [(aa,0),(ae,0),(af,0)] [tS 16 o x16.length u,tI 15 stop,tA 14 (Hq x t_ ab y ac z ad),tA 13 (Hb k a p l q m s),tA 12 (G5 b r_ f d g e i)] cj)=>hK _ _ ?_⟩
 refine Rk 5 1 [tS 9 o x16.length u] bv am fun cx bw=>?_
 refine wf (XT (Aa (Rk 0 1 [tI 10 0,tS 9 o x16.length u] bw am fun cy bx=>?_)))
 refine wf (XT (XT (Aa (Rk 0 1 [tI 11 1,tI 10 0,tS 9 o x16.length u] bx am fun cz bz=>?_))))
 refine wf ?_
 obtain⟨ao,bb,H⟩:=Aq H
 refine Av (fun a' w'=>∃ (a8:Array Value)(aq:Ae),a' = ⟨a8,[]⟩∧Kn 36 [(aa,0),(ae,0),(af,0)] [tI 10 ao] a8∧Ah ⟨w,h,Aj⟩ aq [(aa,0),(ae,0),(af,0)] [⟨G5 b r_ f d g e i,some 28⟩,⟨Hb k a p l q m s,some 50⟩,⟨Hq x t_ ab y ac z ad,some 75⟩] [] w'∧Ae.le bc aq) ?_ ?_
 ·
  refine wp_block ?_
  refine Ar (fun ce a' w'=>∃ (x_v10:Int)(x_v11:Int)(a9:Array Value)(aj:Ae),a' = ⟨a9,[]⟩∧Kn 36 [(aa,0),(ae,0),(af,0)] [tI 11 x_v10,tI 10 x_v11,tS 9 o x16.length u] a9∧Ah ⟨w,h,Aj⟩ aj [(aa,0),(ae,0),(af,0)] [⟨G5 b r_ f d g e i,some 28⟩,⟨Hb k a p l q m s,some 50⟩,⟨Hq x t_ ab y ac z ad,some 75⟩] [] w'∧Ae.le bc aj∧EU ce x16 x_v10 x_v11=some ao) n ?_ ?_
  ·
   exact XY 1 ⟨0,_,_,rfl,bz.kp,am,Ae.le_refl _,bb⟩
  ·
   rintro a7 _ bf ⟨x_v10,x_v11,a9,aj,rfl,b0,ai,av,ag⟩
   clear bb
   obtain _ | a7:=a7
   ·
    rw [EU] at ag; cases ag
   rw [EU] at ag
   replace an:=an.mono av
   refine XT (XT (Aa (Rk 0 4 [tB 20 (decide (x_v10<((x16.length:Nat):Int))),tI 11 x_v10,tI 10 x_v11,tS 9 o x16.length u] b0 ai fun c0 au=>?_)))
   refine wf (wC (decide (x_v10<((x16.length:Nat):Int))) au (fun ar=>?_) (fun ar=>?_))
   ·
    rw [ar,XW] at ag
    refine wp_skip (XT (wp_block (An (by kernel_rfl) ?_)))
    replace ai:=ai.drew
    refine Ao [] [(aa,0),(ae,0),(af,0)] [⟨G5 b r_ f d g e i,some 28⟩,⟨Hb k a p l q m s,some 50⟩,⟨Hq x t_ ab y ac z ad,some 75⟩] ?_
    refine Dr [0,1,2] [2,1,0] [tI 25 x_v10,tS 24 o x16.length u,tI 23 x_v11,tI 11 x_v10,tS 9 o x16.length u] au ai fun c1 b1=>?_
    obtain⟨x26,ex26,ag⟩:=Aq ag
    obtain⟨b7,b9,cd⟩:=Ai ex26
    obtain⟨ak,ap,co,bi,cb,bk⟩:=an.get (by decide) cd
    obtain rfl:=cb
    have ax:Ah ⟨w,h,Aj⟩ aj [(aa,0),(ae,0),(af,0),(ak,ap+(x_v10:Int).toNat*1)] [⟨G5 b r_ f d g e i,some 28⟩,⟨Hb k a p l q m s,some 50⟩,⟨Hq x t_ ab y ac z ad,some 75⟩,⟨[.int .i64 x26],none⟩] [] (World.drew bf):=ai.addPlc (cs:=[.int .i64 x26]) (fun j c hj=>bk j _ (Al hj)) rfl (by kernel_rfl) (by kernel_rfl)
    refine Ax 3 (x_v10) [.int .i64 x26] (fun _ _ _ _ _ h=>h) rfl rfl (rfl) rfl (by decide) (by kernel_rfl) (by kernel_rfl) b1 ai.plOk (by rfl) (by rfl) (by rfl) bi (by rfl) b7 b9 (by kernel_rfl) fun ck (b2:Kn 36 [(aa,0),(ae,0),(af,0),(ak,ap+(x_v10:Int).toNat*1)] [tP 26 3 0,tI 25 x_v10,tS 24 o x16.length u,tI 23 x_v11,tI 11 x_v10,tS 9 o x16.length u] ck)=>?_
    refine Dr [4,5,6,7] (dn 7) [tI 30 (IntKind.i64.wrap (x_v10-1)),tS 28 o x16.length u,tI 27 x26,tI 23 x_v11,tI 11 x_v10,tS 9 o x16.length u] b2 ax fun c2 b3=>?_
    obtain⟨x31,ex31,ag⟩:=Aq ag
    obtain⟨b6,b8,cc⟩:=Ai ex31
    obtain⟨ba,be,cp,bh,ca,bj⟩:=an.get (by decide) cc
    obtain rfl:=ca
    have aw:Ah ⟨w,h,Aj⟩ aj [(aa,0),(ae,0),(af,0),(ak,ap+(x_v10:Int).toNat*1),(ba,be+(IntKind.i64.wrap (x_v10-1):Int).toNat*1)] [⟨G5 b r_ f d g e i,some 28⟩,⟨Hb k a p l q m s,some 50⟩,⟨Hq x t_ ab y ac z ad,some 75⟩,⟨[.int .i64 x26],none⟩,⟨[.int .i64 x31],none⟩] [] (World.drew bf):=ax.addPlc (cs:=[.int .i64 x31]) (fun j c hj=>bj j _ (Al hj)) rfl (by kernel_rfl) (by kernel_rfl)
    refine Ax 8 (IntKind.i64.wrap (x_v10-1)) [.int .i64 x31] (fun _ _ _ _ _ h=>h) rfl rfl (rfl) rfl (by decide) (by kernel_rfl) (by kernel_rfl) b3 ax.plOk (by rfl) (by rfl) (by rfl) bh (by rfl) b6 b8 (by kernel_rfl) fun cf (bl:Kn 36 [(aa,0),(ae,0),(af,0),(ak,ap+(x_v10:Int).toNat*1),(ba,be+(IntKind.i64.wrap (x_v10-1):Int).toNat*1)] [tP 31 4 0,tI 30 (IntKind.i64.wrap (x_v10-1)),tS 28 o x16.length u,tI 27 x26,tI 23 x_v11,tI 11 x_v10,tS 9 o x16.length u] cf)=>?_
    refine Dr [9,10,11,12] (dn 12) [tI 10 (if (IntKind.i64.wrap (x26-x31))>x_v11 then(IntKind.i64.wrap (x26-x31)) else x_v11),tI 11 x_v10,tS 9 o x16.length u] bl aw fun cr bm=>?_
    refine Ay (by kernel_rfl) (Aa (Rk 0 3 [tI 11 (IntKind.i64.wrap (x_v10+1)),tI 10 (if (IntKind.i64.wrap (x26-x31))>x_v11 then(IntKind.i64.wrap (x26-x31)) else x_v11),tS 9 o x16.length u] bm aw fun ct bn=>?_))
    refine wf ?_
    exact XY a7 ⟨Nat.lt_succ_self _,XY (IntKind.i64.wrap (x_v10+1)) ⟨(if (IntKind.i64.wrap (x26-x31))>x_v11 then(IntKind.i64.wrap (x26-x31)) else x_v11),_,_,rfl,(bn.keep [11,10,9] (by rfl)).cut 3 (by kernel_rfl),aw.cutPl 3 (by kernel_rfl),av,ag⟩⟩
   ·
    rw [ar,XV] at ag
    refine wp_exit ?_
    obtain rfl:=XZ ag
    exact XY _ ⟨_,rfl,au.kp,ai,av⟩
 ·
  rintro _ c4 ⟨a8,aq,rfl,bo,bd,cq⟩
  refine XT (Aa (Rk 0 2 [tI 8 ao] bo bd fun cu bp=>?_))
  refine wf (wp_ret ?_)
  obtain rfl:=XZ H
  exact rt (.one (.c (.int .i64 ao))) bp bd rfl
abbrev IT (j:Option Addr) (a:Am) (m:Nat) (k:Option Addr) (o:Nat) (l:Option Addr) (p:Nat):List SC:=[.slice j a.holds.length m,.slice k a.turns.length o,.slice l a.spares.length p]
abbrev Gj (b:Option Addr) (r_:Af) (f:Nat) (d:Option Addr) (g:Nat) (e:Option Addr) (i:Nat):List SC:=[.slice b r_.legs.length f,.int .i64 r_.turn.lo,.int .i64 r_.turn.hi,.slice d r_.buses.length g,.slice e r_.spares.length i,.int .i64 r_.unit,.int .i64 r_.gap,.int .i64 r_.fr,.int .i64 r_.to_]
set_option maxRecDepth 100000 in
set_option maxHeartbeats 4000000 in
theorem Qq (n:Nat) {h:Ae} {w:World} (hh:Dn h w) (r_:Af) {cs_r_:List Value} (hx_r_:rep h r_ cs_r_) (a:Am) {cs_a:List Value} (hx_a:rep h a cs_a) (stop:Int) {r:Int} (H:HR n r_ a stop=some r) :
  Calls Try.prog 20 #[.agg cs_r_.toArray,.agg cs_a.toArray,.int .i64 stop] w (Dp (fun h v=>v=.int .i64 r) h w):=by
 obtain⟨_,_,rfl,⟨b,f,rfl,aa⟩,⟨_,_,rfl,⟨_,_,rfl,rfl,rfl⟩,⟨_,_,rfl,⟨d,g,rfl,ab⟩,⟨_,_,rfl,⟨e,i,rfl,ac⟩,⟨_,_,rfl,rfl,⟨_,_,rfl,rfl,⟨_,_,rfl,rfl,rfl⟩⟩⟩⟩⟩⟩⟩:=hx_r_
 obtain⟨_,_,rfl,⟨j,m,rfl,ad⟩,⟨_,_,rfl,⟨k,o,rfl,ae⟩,⟨l,p,rfl,af⟩⟩⟩:=hx_a
 refine enter 32 [.agg (Gj b r_ f d g e i),.agg (IT j a m k o l p),.c (.int .i64 stop)] Try.func20 rfl rfl rfl rfl fun t hk=>?_
 have hm:=Ah.begin h w hh
 unfold HR at H
 refine XT (Aa (wl fun K hK=>?_))
 refine wb (.agg (Gj b r_ f d g e i)) hk hm fun s bp bu (a4:Kn 32 [(s,0)] [tP 3 0 0,tA 0 (Gj b r_ f d g e i),tA 1 (IT j a m k o l p),tI 2 stop] bp) (bk:Ah ⟨w,h,Aj⟩ h [(s,0)] [⟨Gj b r_ f d g e i,some 28⟩] [] bu)=>hK _ _ ?_
 refine wl fun K hK=>?_
 refine wb (.agg (IT j a m k o l p)) a4 bk fun u bq bv (a5:Kn 32 [(s,0),(u,0)] [tP 4 1 0,tP 3 0 0,tA 0 (Gj b r_ f d g e i),tA 1 (IT j a m k o l p),tI 2 stop] bq) (ao:Ah ⟨w,h,Aj⟩ h [(s,0),(u,0)] [⟨Gj b r_ f d g e i,some 28⟩,⟨IT j a m k o l p,some 50⟩] [] bv)=>hK _ _ ?_
 refine Rk 2 1 [tP 4 1 0,tP 3 0 0,tI 2 stop] a5 ao fun bz a6=>?_
 refine wf (XT (Aa (Rk 0 1 [tI 7 0,tP 4 1 0,tP 3 0 0,tI 2 stop] a6 ao fun b0 a7=>?_)))
 refine wf (XT (XT (Aa (Rk 0 1 [tI 8 0,tI 7 0,tP 4 1 0,tP 3 0 0,tI 2 stop] a7 ao fun b1 a8=>?_))))
 refine wf ?_
 obtain⟨aq,a0,H⟩:=Aq H
 refine Av (fun a' w'=>∃ (ay:Array Value)(ar:Ae),a' = ⟨ay,[]⟩∧Kn 32 [(s,0),(u,0)] [tI 7 aq] ay∧Ah ⟨w,h,Aj⟩ ar [(s,0),(u,0)] [⟨Gj b r_ f d g e i,some 28⟩,⟨IT j a m k o l p,some 50⟩] [] w'∧Ae.le h ar) ?_ ?_
 ·
  refine wp_block ?_
  refine Ar (fun bo a' w'=>∃ (x_v10:Int)(x_v11:Int)(az:Array Value)(an:Ae),a' = ⟨az,[]⟩∧Kn 32 [(s,0),(u,0)] [tI 8 x_v10,tI 7 x_v11,tP 4 1 0,tP 3 0 0,tI 2 stop] az∧Ah ⟨w,h,Aj⟩ an [(s,0),(u,0)] [⟨Gj b r_ f d g e i,some 28⟩,⟨IT j a m k o l p,some 50⟩] [] w'∧Ae.le h an∧DT bo r_ a stop x_v10 x_v11=some aq) n ?_ ?_
  ·
   exact XY 0 ⟨0,_,_,rfl,a8.kp,ao,Ae.le_refl _,a0⟩
  ·
   rintro ag _ ca ⟨x_v10,x_v11,az,an,rfl,a9,y,x,q⟩
   clear a0
   obtain _ | ag:=ag
   ·
    rw [DT] at q; cases q
   rw [DT] at q
   replace aa:=aa.mono x
   replace ab:=ab.mono x
   replace ac:=ac.mono x
   replace ad:=ad.mono x
   replace ae:=ae.mono x
   replace af:=af.mono x
   refine XT (XT (Aa (Rk 0 9 [(17,.one (.c (.int .u64 (IntKind.u64.wrap (IntKind.i64.wrap (((r_.buses.length:Nat):Int)+((r_.spares.length:Nat):Int))))))),tI 9 x_v10,tI 8 x_v10,tI 7 x_v11,tP 4 1 0,tP 3 0 0,tI 2 stop] a9 y fun b2 ba=>?_)))
   obtain⟨x18,ex18,q⟩:=Aq q
   refine UU 9 ba rfl rfl (rfl) rfl (by decide) (by rfl) (by rfl) (QM ex18) fun br (bb:Kn 32 [(s,0),(u,0)] [tI 18 (IntKind.i64.wrap (1*2 ^ (min (IntKind.u64.wrap (IntKind.i64.wrap (((r_.buses.length:Nat):Int)+((r_.spares.length:Nat):Int))):Int).toNat 64))),(17,.one (.c (.int .u64 (IntKind.u64.wrap (IntKind.i64.wrap (((r_.buses.length:Nat):Int)+((r_.spares.length:Nat):Int))))))),tI 9 x_v10,tI 8 x_v10,tI 7 x_v11,tP 4 1 0,tP 3 0 0,tI 2 stop] br)=>?_
   refine Rk 10 1 [tB 19 (decide (x_v10<(IntKind.i64.wrap (1*2 ^ (min (IntKind.u64.wrap (IntKind.i64.wrap (((r_.buses.length:Nat):Int)+((r_.spares.length:Nat):Int))):Int).toNat 64))))),tI 8 x_v10,tI 7 x_v11,tP 4 1 0,tP 3 0 0,tI 2 stop] bb y fun b3 aw=>?_
   refine wf (wC (decide (x_v10<(IntKind.i64.wrap (1*2 ^ (min (IntKind.u64.wrap (IntKind.i64.wrap (((r_.buses.length:Nat):Int)+((r_.spares.length:Nat):Int))):Int).toNat 64))))) aw (fun av=>?_) (fun av=>?_))
   ·
    rw [av,XW] at q
    refine wp_skip (XT (wp_block (An (by kernel_rfl) ?_)))
    replace y:=y.drew
    refine Ao [] [(s,0),(u,0)] [⟨Gj b r_ f d g e i,some 28⟩,⟨IT j a m k o l p,some 50⟩] ?_
    refine Dr [0,1,2,3,4,6] [6,4,3,2,1,0] [tI 28 stop,tI 26 x_v10,tA 25 (Gj b r_ f d g e i),tA 24 (IT j a m k o l p),tA 23 (Gj b r_ f d g e i),tI 22 x_v11,tI 8 x_v10,tP 4 1 0,tP 3 0 0,tI 2 stop] aw y fun b4 bc=>?_
    obtain⟨x27,ex27,q⟩:=Aq q
    refine Dl 5 fun K hK=>?_
    refine wc [.agg (Gj b r_ f d g e i),.c (.int .i64 x_v10)] bc y (Rn ag y.has r_ ((Ab (Ad aa) (Ab (Ab Ac Ac) (Ab (Ad ab) (Ab (Ad ac) (Ab Ac (Ab Ac (Ab Ac Ac))))))):rep an r_ _) x_v10 ex27) fun b8 au cb a2 z ax=>?_
    replace aa:=aa.mono z
    replace ab:=ab.mono z
    replace ac:=ac.mono z
    replace ad:=ad.mono z
    replace ae:=ae.mono z
    replace af:=af.mono z
    obtain⟨_,rfl,⟨_,_,rfl,⟨ah,ak,rfl,bl⟩,⟨_,_,rfl,⟨ai,al,rfl,bm⟩,⟨aj,am,rfl,bn⟩⟩⟩⟩:=a2
    refine⟨.one (.agg [.slice ah x27.tm.length ak,.slice ai x27.turns.length al,.slice aj x27.legs.length am]),rfl,fun bs (bd:Kn 32 [(s,0),(u,0)] [tA 27 [.slice ah x27.tm.length ak,.slice ai x27.turns.length al,.slice aj x27.legs.length am],tI 28 stop,tI 26 x_v10,tA 25 (Gj b r_ f d g e i),tA 24 (IT j a m k o l p),tA 23 (Gj b r_ f d g e i),tI 22 x_v11,tI 8 x_v10,tP 4 1 0,tP 3 0 0,tI 2 stop] bs)=>hK _ _ ax.plOk ?_⟩
    obtain⟨x29,ex29,q⟩:=Aq q
    refine Dl 7 fun K hK=>?_
    refine wc [.agg (Gj b r_ f d g e i),.agg (IT j a m k o l p),.agg [.slice ah x27.tm.length ak,.slice ai x27.turns.length al,.slice aj x27.legs.length am],.c (.int .i64 stop)] bd ax (Sb ag ax.has r_ ((Ab (Ad aa) (Ab (Ab Ac Ac) (Ab (Ad ab) (Ab (Ad ac) (Ab Ac (Ab Ac (Ab Ac Ac))))))):rep au r_ _) a ((Ab (Ad ad) (Ab (Ad ae) (Ad af))):rep au a _) x27 ((Ab (Ad bl) (Ab (Ad bm) (Ad bn))):rep au x27 _) stop ex29) fun b9 bw cc a3 bj ap=>?_
    obtain rfl:=a3
    refine⟨.one (.c (.int .i64 x29)),rfl,fun bt (be:Kn 32 [(s,0),(u,0)] [tI 29 x29,tA 27 [.slice ah x27.tm.length ak,.slice ai x27.turns.length al,.slice aj x27.legs.length am],tI 28 stop,tI 26 x_v10,tA 25 (Gj b r_ f d g e i),tA 24 (IT j a m k o l p),tA 23 (Gj b r_ f d g e i),tI 22 x_v11,tI 8 x_v10,tP 4 1 0,tP 3 0 0,tI 2 stop] bt)=>hK _ _ ap.plOk ?_⟩
    refine Dr [8,9] [9,8,7,5,6,4,3,2,1,0] [tI 7 (if x29>x_v11 then x29 else x_v11),tI 8 x_v10,tP 4 1 0,tP 3 0 0,tI 2 stop] be ap fun b5 bf=>?_
    refine Ay (by kernel_rfl) (Aa (Rk 0 3 [tI 8 (IntKind.i64.wrap (x_v10+1)),tI 7 (if x29>x_v11 then x29 else x_v11),tP 4 1 0,tP 3 0 0,tI 2 stop] bf ap fun b6 bg=>?_))
    refine wf ?_
    exact XY ag ⟨Nat.lt_succ_self _,XY (IntKind.i64.wrap (x_v10+1)) ⟨(if x29>x_v11 then x29 else x_v11),_,_,rfl,bg.kp,ap,XU x (XU z bj),q⟩⟩
   ·
    rw [av,XV] at q
    refine wp_exit ?_
    obtain rfl:=XZ q
    exact XY _ ⟨_,rfl,aw.kp,y,x⟩
 ·
  rintro _ cd ⟨ay,ar,rfl,bh,a1,bx⟩
  refine XT (Aa (Rk 0 2 [tI 6 aq] bh a1 fun b7 bi=>?_))
  refine wf (wp_ret ?_)
  obtain rfl:=XZ H
  exact rt (.one (.c (.int .i64 aq))) bi a1 rfl
end Go.Proofs.Ytokchpjijlebiaa
