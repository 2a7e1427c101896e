/- Each call computes its plain function. -/
import Derived.Test.YtokchpjijlebiaaProg
import Derived.Test.YtokchpjijlebiaaWGP0
import Derived.Test.YtokchpjijlebiaaWGWA
import Derived.Test.YtokchpjijlebiaaWGWC
set_option linter.all false
namespace Go.Proofs.Ytokchpjijlebiaa
open Go Go.RowKit
open Rep (rep)
open KRep (kv)
open VRep (rv)
abbrev Sa (x38:Rg):List SC:=[.int .i64 x38.lo,.int .i64 x38.hi]
abbrev Sb (x60:CG):List SC:=[.int .i64 x60.tm.lo,.int .i64 x60.tm.hi]
abbrev Is (r_:Af):List SC:=[.int .i64 r_.turn.lo,.int .i64 r_.turn.hi]
abbrev F0:List SC:=[.slice none 0 0,.slice none 0 0,.slice none 0 0]
abbrev PM (x60:CG):List SC:=[.int .i64 x60.stop,.int .i64 x60.tm.lo,.int .i64 x60.tm.hi]
abbrev Dk (a e g z ab:Nat) (x_v13:Int):Be:=[(a,0),(e,0),(g,0),(z,ab+(x_v13:Int).toNat*3)]
abbrev Sc (k:Option Addr) (x_v10:List Int) (l:Nat) (d:Option Addr) (x_v11:List Int) (f:Nat) (ae:Option Addr) (x48:List (List Int)) (af:Nat):List SC:=[.slice k x_v10.length l,.slice d x_v11.length f,.slice ae x48.length af]
abbrev IZ (ah:Option Addr) (m:((List Int)×(List Int)×(List (List Int)))) (ak:Nat) (ai:Option Addr) (al:Nat) (aj:Option Addr) (am:Nat):List SC:=[.slice ah m.1.length ak,.slice ai m.2.1.length al,.slice aj m.2.2.length am]
abbrev ET (p:Option Addr) (r_:Af) (s:Nat) (q:Option Addr) (u:Nat) (y:Option Addr) (aa:Nat):List SC:=[.slice p r_.legs.length s,.int .i64 r_.turn.lo,.int .i64 r_.turn.hi,.slice q r_.buses.length u,.slice y r_.spares.length aa,.int .i64 r_.unit,.int .i64 r_.gap,.int .i64 r_.fr,.int .i64 r_.to_]
abbrev Ja (p:Option Addr) (r_:Af) (s:Nat) (q:Option Addr) (u:Nat) (y:Option Addr) (aa:Nat) (k:Option Addr) (x_v10:List Int) (l:Nat) (d:Option Addr) (x_v11:List Int) (f:Nat) (ae:Option Addr) (x48:List (List Int)) (af:Nat) (x60:CG):List CM:=[⟨ET p r_ s q u y aa,some 28⟩,⟨F0,some 75⟩,⟨Sc k x_v10 l d x_v11 f ae x48 af,some 75⟩,⟨PM x60,none⟩]
abbrev DF (late x_v13:Int):TM:=[tB 7 ((Int.tmod (Int.fdiv late (2 ^ (min (IntKind.u64.wrap x_v13:Int).toNat 64))) 2) == 1),tI 6 x_v13,tP 5 2 0,tP 4 1 0,tP 2 0 0,tI 1 late]
abbrev Jb (late x_v13:Int) (d:Option Addr) (x_v11:List Int) (f:Nat) (x60:CG) (k:Option Addr) (x_v10:List Int) (l:Nat):TM:=[tB 71 ((Int.tmod (Int.fdiv late (2 ^ (min (IntKind.u64.wrap x_v13:Int).toNat 64))) 2) == 1),tP 69 0 1,tS 68 d x_v11.length f,tB 63 ((Int.tmod (Int.fdiv late (2 ^ (min (IntKind.u64.wrap x_v13:Int).toNat 64))) 2) == 1),tA 62 (Sb x60),tS 56 k x_v10.length l,tI 6 x_v13,tP 5 2 0,tP 4 1 0,tP 2 0 0,tI 1 late]
abbrev GB (x_v13 late:Int):TM:=[tI 6 x_v13,tP 5 2 0,tP 4 1 0,tP 2 0 0,tI 1 late]
abbrev OJ (r_:Af) (av:Option Addr) (x66:List Int) (aw:Nat) (late x_v13:Int) (d:Option Addr) (x_v11:List Int) (f:Nat):TM:=(tA 70 (Is r_))::(tP 75 2 0)::(tS 66 av x66.length aw)::(tB 71 ((Int.tmod (Int.fdiv late (2 ^ (min (IntKind.u64.wrap x_v13:Int).toNat 64))) 2) == 1))::(tS 68 d x_v11.length f)::(GB x_v13 late)
abbrev OL (late x_v13:Int) (x38:Rg) (ay:Option Addr) (x_v20:List Int) (az:Nat) (x_v21:Int):TM:=(tB 40 ((Int.tmod (Int.fdiv late (2 ^ (min (IntKind.u64.wrap x_v13:Int).toNat 64))) 2) == 1))::(tA 39 (Sa x38))::(tS 34 ay x_v20.length az)::(tI 9 x_v21)::(DF late x_v13)
abbrev OM (late x_v13:Int) (d:Option Addr) (x_v11:List Int) (f:Nat) (k:Option Addr) (x_v10:List Int) (l:Nat):TM:=(tB 71 ((Int.tmod (Int.fdiv late (2 ^ (min (IntKind.u64.wrap x_v13:Int).toNat 64))) 2) == 1))::(tS 68 d x_v11.length f)::(tS 56 k x_v10.length l)::(GB x_v13 late)
set_option maxRecDepth 100000 in
set_option maxHeartbeats 4000000 in
theorem PN (n:Nat) {h:Ae} {w:World} (hh:CU h w) (r_:Af) {cs_r_:List Value} (hx_r_:rep h r_ cs_r_) (late:Int) {r:Ay} (H:IB n r_ late=some r) :
  Calls Try.prog 61 #[.agg cs_r_.toArray,.int .i64 late] w (Da (fun h v=>∃ cs,v=.agg cs.toArray∧rep h r cs) h w):=by
 obtain⟨_,_,rfl,⟨p,s,rfl,bd⟩,⟨_,_,rfl,⟨_,_,rfl,rfl,rfl⟩,⟨_,_,rfl,⟨q,u,rfl,be⟩,⟨_,_,rfl,⟨y,aa,rfl,bp⟩,⟨_,_,rfl,rfl,⟨_,_,rfl,rfl,⟨_,_,rfl,rfl,rfl⟩⟩⟩⟩⟩⟩⟩:=hx_r_
 refine enter 78 [.agg (ET p r_ s q u y aa),.c (.int .i64 late)] Try.func61 rfl rfl rfl rfl fun t hk=>?_
 have hm:=Ah.begin h w hh
 unfold IB at H
 refine XT (Aa (wl fun K hK=>?_))
 refine wb (.agg (ET p r_ s q u y aa)) hk hm fun a ia j2 (fs:Kn 78 [(a,0)] [tP 2 0 0,tA 0 (ET p r_ s q u y aa),tI 1 late] ia) hl=>hK _ _ ?_
 refine wl fun K hK=>?_
 refine wa F0 fs hl fun e eu j6 (f1:Kn 78 [(a,0),(e,0)] [tP 4 1 0,tP 2 0 0,tA 0 (ET p r_ s q u y aa),tI 1 late] eu) hn=>hK _ _ ?_
 have f7:Kn 78 [(a,0),(e,0)] [tP 4 1 0,tP 2 0 0,tI 1 late] eu:=f1.kp
 refine wf (XT (Aa (wl fun K hK=>?_)))
 refine wa F0 f7 hn fun g il dv (gb:Kn 78 [(a,0),(e,0),(g,0)] [tP 5 2 0,tP 4 1 0,tP 2 0 0,tI 1 late] il) eh=>hK _ _ ?_
 refine wf (XT (XT (Aa (Rk 0 1 [tI 6 0,tP 5 2 0,tP 4 1 0,tP 2 0 0,tI 1 late] gb eh fun jn gk=>?_))))
 refine wf ?_
 have hp:Ah ⟨w,h,A4⟩ h [(a,0),(e,0),(g,0)] [⟨ET p r_ s q u y aa,some 28⟩,⟨F0,some 75⟩,⟨F0,some 75⟩] [⟨none,0,0,3,1,[],0⟩] dv:=eh.nilRow 3 1
 have fb:Ag h ([]:List Int) []:=Ag.nil
 have hr:Ah ⟨w,h,A4⟩ h [(a,0),(e,0),(g,0)] [⟨ET p r_ s q u y aa,some 28⟩,⟨F0,some 75⟩,⟨F0,some 75⟩] [⟨none,0,0,3,1,[],0⟩,⟨none,0,0,3,1,[],0⟩] dv:=hp.nilRow 3 1
 have fe:Ag h ([]:List Int) []:=Ag.nil
 have hs:Ah ⟨w,h,A4⟩ h [(a,0),(e,0),(g,0)] [⟨ET p r_ s q u y aa,some 28⟩,⟨F0,some 75⟩,⟨F0,some 75⟩] [⟨none,0,0,3,1,[],0⟩,⟨none,0,0,3,1,[],0⟩,⟨none,0,0,31,1,[],0⟩] dv:=hr.nilRow 31 1
 have ff:Ag h ([]:List (List Int)) []:=Ag.nil
 obtain⟨m,d2,H⟩:=Aw H
 refine Az (fun a' w'=>∃ (ah:Option Addr)(ak:Nat)(a5:List Value)(ai:Option Addr)(al:Nat)(ba:List Value)(aj:Option Addr)(am:Nat)(bg:List Value)(dr:Array Value)(bk:Ae),a' = ⟨dr,[]⟩∧Kn 78 [(a,0),(e,0),(g,0)] [tP 5 2 0,tP 4 1 0] dr∧Ah ⟨w,h,A4⟩ bk [(a,0),(e,0),(g,0)] [⟨ET p r_ s q u y aa,some 28⟩,⟨F0,some 75⟩,⟨IZ ah m ak ai al aj am,some 75⟩] [⟨ah,m.1.length,ak,3,1,a5,0⟩,⟨ai,m.2.1.length,al,3,1,ba,0⟩,⟨aj,m.2.2.length,am,31,1,bg,0⟩] w'∧Ae.le h bk∧Ag bk m.1 a5∧Ag bk m.2.1 ba∧Ag bk m.2.2 bg) ?_ ?_
 ·
  refine wp_block ?_
  refine Ar (fun h8 a' w'=>∃ (x_v10:List Int)(x_v11:List Int)(x_v12:List (List Int))(x_v13:Int)(k:Option Addr)(l:Nat)(an:List Value)(d:Option Addr)(f:Nat)(ao:List Value)(aq:Option Addr)(ar:Nat)(ap:List Value)(ds:Array Value)(a2:Ae),a' = ⟨ds,[]⟩∧Kn 78 [(a,0),(e,0),(g,0)] (GB x_v13 late) ds∧Ah ⟨w,h,A4⟩ a2 [(a,0),(e,0),(g,0)] [⟨ET p r_ s q u y aa,some 28⟩,⟨F0,some 75⟩,⟨[.slice k x_v10.length l,.slice d x_v11.length f,.slice aq x_v12.length ar],some 75⟩] [⟨k,x_v10.length,l,3,1,an,0⟩,⟨d,x_v11.length,f,3,1,ao,0⟩,⟨aq,x_v12.length,ar,31,1,ap,0⟩] w'∧Ae.le h a2∧Ag a2 x_v10 an∧Ag a2 x_v11 ao∧Ag a2 x_v12 ap∧Dx h8 r_ late x_v10 x_v11 x_v12 x_v13=some m) n ?_ ?_
  ·
   exact XY ([]:List Int) ⟨([]:List Int),([]:List (List Int)),0,none,0,[],none,0,[],none,0,[],_,_,rfl,gk.kp,hs,Ae.le_refl _,fb,fe,ff,d2⟩
  ·
   rintro a9 _ i6 ⟨x_v10,x_v11,x_v12,x_v13,k,l,an,d,f,ao,aq,ar,ap,ds,a2,rfl,g3,bc,bm,a1,a3,bl,ag⟩
   clear d2
   obtain _ | a9:=a9
   ·
    rw [Dx] at ag; cases ag
   rw [Dx] at ag
   replace bd:=bd.mono bm
   replace be:=be.mono bm
   replace bp:=bp.mono bm
   refine XT (XT (Aa (Rk 0 9 ((tB 18 (decide (x_v13<(IntKind.i64.wrap (((r_.buses.length:Nat):Int)+((r_.spares.length:Nat):Int))))))::(GB x_v13 late)) g3 bc fun js c2=>?_)))
   refine wf (wC (decide (x_v13<(IntKind.i64.wrap (((r_.buses.length:Nat):Int)+((r_.spares.length:Nat):Int))))) c2 (fun cq=>?_) (fun cq=>?_))
   ·
    rw [cq,XW] at ag
    refine wp_skip (XT (wp_block (XT (Aa (Rk 0 3 ((23,.one (.c (.int .u64 (IntKind.u64.wrap x_v13))))::(tI 21 late)::(GB x_v13 late)) c2 bc fun jt g4=>?_)))))
    obtain⟨x24,ex24,ag⟩:=Aw ag
    refine Tm 3 g4 rfl rfl (rfl) rfl (by decide) (by rfl) (by rfl) (Pz ex24) fun i4 (g5:Kn 78 [(a,0),(e,0),(g,0)] ((tI 24 (Int.fdiv late (2 ^ (min (IntKind.u64.wrap x_v13:Int).toNat 64))))::(23,.one (.c (.int .u64 (IntKind.u64.wrap x_v13))))::(tI 21 late)::(GB x_v13 late)) i4)=>?_
    refine Rk 4 3 (DF late x_v13) g5 bc fun ju g6=>?_
    refine wf (XT (Aa (Rk 0 1 ((tS 8 none 0 0)::(DF late x_v13)) g6 bc fun jv g7=>?_)))
    refine wf (XT (XT (Aa (Rk 0 1 ((tI 9 0)::(tS 8 none 0 0)::(DF late x_v13)) g7 bc fun jw g8=>?_))))
    refine wf ?_
    have ht:Ah ⟨w,h,A4⟩ a2 [(a,0),(e,0),(g,0)] [⟨ET p r_ s q u y aa,some 28⟩,⟨F0,some 75⟩,⟨[.slice k x_v10.length l,.slice d x_v11.length f,.slice aq x_v12.length ar],some 75⟩] [⟨k,x_v10.length,l,3,1,an,0⟩,⟨d,x_v11.length,f,3,1,ao,0⟩,⟨aq,x_v12.length,ar,31,1,ap,0⟩,⟨none,0,0,3,1,[],0⟩] i6:=bc.nilRow 3 1
    have fh:Ag a2 ([]:List Int) []:=Ag.nil
    obtain⟨x,d3,ag⟩:=Aw ag
    refine Az (fun a' w'=>∃ (ac:Option Addr)(ad:Nat)(au:List Value)(dt:Array Value)(b7:Ae),a' = ⟨dt,[]⟩∧Kn 78 [(a,0),(e,0),(g,0)] ((tS 8 ac x.length ad)::(DF late x_v13)) dt∧Ah ⟨w,h,A4⟩ b7 [(a,0),(e,0),(g,0)] [⟨ET p r_ s q u y aa,some 28⟩,⟨F0,some 75⟩,⟨[.slice k x_v10.length l,.slice d x_v11.length f,.slice aq x_v12.length ar],some 75⟩] [⟨k,x_v10.length,l,3,1,an,0⟩,⟨d,x_v11.length,f,3,1,ao,0⟩,⟨aq,x_v12.length,ar,31,1,ap,0⟩,⟨ac,x.length,ad,3,1,au,0⟩] w'∧Ae.le a2 b7∧Ag b7 x au) ?_ ?_
    ·
     refine wp_block ?_
     refine Ar (fun h9 a' w'=>∃ (x_v20:List Int)(x_v21:Int)(ay:Option Addr)(az:Nat)(bq:List Value)(dl:Array Value)(bv:Ae),a' = ⟨dl,[]⟩∧Kn 78 [(a,0),(e,0),(g,0)] ((tI 9 x_v21)::(tS 8 ay x_v20.length az)::(DF late x_v13)) dl∧Ah ⟨w,h,A4⟩ bv [(a,0),(e,0),(g,0)] [⟨ET p r_ s q u y aa,some 28⟩,⟨F0,some 75⟩,⟨[.slice k x_v10.length l,.slice d x_v11.length f,.slice aq x_v12.length ar],some 75⟩] [⟨k,x_v10.length,l,3,1,an,0⟩,⟨d,x_v11.length,f,3,1,ao,0⟩,⟨aq,x_v12.length,ar,31,1,ap,0⟩,⟨ay,x_v20.length,az,3,1,bq,0⟩] w'∧Ae.le a2 bv∧Ag bv x_v20 bq∧Eg h9 r_ late x_v13 x_v20 x_v21=some x) a9 ?_ ?_
     ·
      exact XY ([]:List Int) ⟨0,none,0,[],_,_,rfl,g8.kp,ht,Ae.le_refl _,fh,d3⟩
     ·
      rintro cg _ j1 ⟨x_v20,x_v21,ay,az,bq,dl,bv,rfl,fn,cd,a6,ca,a0⟩
      clear d3
      obtain _ | cg:=cg
      ·
       rw [Eg] at a0; cases a0
      rw [Eg] at a0
      replace bd:=bd.mono a6
      replace be:=be.mono a6
      replace bp:=bp.mono a6
      replace a1:=a1.mono a6
      replace a3:=a3.mono a6
      replace bl:=bl.mono a6
      refine XT (XT (Aa (Rk 0 5 ((tB 31 (decide (x_v21<((r_.legs.length:Nat):Int))))::(tI 9 x_v21)::(tS 8 ay x_v20.length az)::(DF late x_v13)) fn cd fun je c0=>?_)))
      refine wf (wC (decide (x_v21<((r_.legs.length:Nat):Int))) c0 (fun co=>?_) (fun co=>?_))
      ·
       rw [co,XW] at a0
       refine wp_skip (XT (wp_block (Aa (Rk 0 4 ((tI 37 x_v21)::(tS 36 p r_.legs.length s)::(tS 34 ay x_v20.length az)::(tI 9 x_v21)::(DF late x_v13)) c0 cd fun jf fo=>?_))))
       obtain⟨x38,ex38,a0⟩:=Aw a0
       obtain⟨hu,hw,h6⟩:=Ai ex38
       obtain⟨bt,b2,i7,e5,h4,e7⟩:=bd.get (by decide) h6
       obtain⟨_,_,rfl,rfl,rfl⟩:=h4
       have c7:=cd.addPlc (b:=bt) (o:=b2+(x_v21:Int).toNat*2) (cs:=(Sa x38)) (fun j c hj=>e7 j _ (Ak hj)) rfl (by kernel_rfl) (by kernel_rfl)
       refine Bl 4 (x_v21) rfl rfl (rfl) rfl (by decide) fo (by rfl) (by rfl) (by rfl) e5 (by rfl) hu hw (by kernel_rfl) fun ib (fp:Kn 78 [(a,0),(e,0),(g,0),(bt,b2+(x_v21:Int).toNat*2)] ((tP 38 3 0)::(tI 37 x_v21)::(tS 36 p r_.legs.length s)::(tS 34 ay x_v20.length az)::(tI 9 x_v21)::(DF late x_v13)) ib)=>?_
       refine Rk 5 2 (OL late x_v13 x38 ay x_v20 az x_v21) fp c7 fun jg fq=>?_
       obtain⟨x41,ex41,a0⟩:=Aw a0
       refine wl fun K hK=>?_
       refine wc [.agg (Sa x38),.c (.bool ((Int.tmod (Int.fdiv late (2 ^ (min (IntKind.u64.wrap x_v13:Int).toNat 64))) 2) == 1))] fq c7 (HZ cg c7.has x38 ((Ab Ac Ac):rep bv x38 _) ((Int.tmod (Int.fdiv late (2 ^ (min (IntKind.u64.wrap x_v13:Int).toNat 64))) 2) == 1) ex41) fun jx ck j3 e1 d9 hg=>?_
       replace ca:=ca.mono d9
       obtain rfl:=e1
       refine⟨.one (.c (.int .i64 x41)),rfl,fun ic (ft:Kn 78 [(a,0),(e,0),(g,0),(bt,b2+(x_v21:Int).toNat*2)] ((tI 41 x41)::(OL late x_v13 x38 ay x_v20 az x_v21)) ic)=>hK _ _ ?_⟩
       refine wl fun K hK=>?_
       refine wS 3 1 [.int .i64 x41] ft hg fun dx ie j4 (fu:Kn 78 [(a,0),(e,0),(g,0),(bt,b2+(x_v21:Int).toNat*2)] ((tS 42 dx 1 1)::(tI 41 x41)::(OL late x_v13 x38 ay x_v20 az x_v21)) ie) eb=>?_
       have cr:Ag ck ([x41]:List Int) ([.int .i64 x41]:List Value):=⟨_,_,rfl,(Ac:rep ck (x41:Int) _),rfl⟩
       refine hK _ _ ?_
       obtain⟨x43,ex43,a0⟩:=Aw a0
       obtain⟨dg,g9⟩:=AU ex43
       refine wl fun K hK=>?_
       refine AE 3 8 1 _ (x43.length) _ ([.int .i64 x41]:List Value) fu eb rfl rfl (by decide) rfl (by rfl) (by kernel_rfl) (by rfl) (by rfl) (Ag.len cr) (eb.rowCell (i:=4) rfl) cr.one (by rw [dg]; simp <;> omega) (by rw [dg]; exact g9) (by decide) fun b3 b5 ew ig j5 fi (fv:Kn 78 [(a,0),(e,0),(g,0),(bt,b2+(x_v21:Int).toNat*2)] ((tS 43 b3 x43.length b5)::(tS 42 dx 1 1)::(tI 41 x41)::(OL late x_v13 x38 ay x_v20 az x_v21)) ig) c8=>?_
       have e8:Ag ck x43 (bq++([.int .i64 x41]:List Value)):=by rw [dg]; exact Ag.append ca cr
       obtain rfl:ew=0:=Nat.le_zero.1 fi
       refine hK _ _ ?_
       refine Rk 10 1 ((tS 8 b3 x43.length b5)::(tI 9 x_v21)::(DF late x_v13)) fv c8 fun jh fw=>?_
       refine wf (Aa (Rk 0 3 ((tI 9 (IntKind.i64.wrap (x_v21+1)))::(tS 8 b3 x43.length b5)::(DF late x_v13)) fw c8 fun ji fx=>?_))
       refine wf ?_
       exact XY cg ⟨Nat.lt_succ_self _,XY x43 ⟨IntKind.i64.wrap (x_v21+1),b3,b5,bq++([.int .i64 x41]:List Value),_,_,rfl,(fx.keep [9,8,7,6,5,4,2,1] (by rfl)).cut 3 (by kernel_rfl),(c8.cutRw 4).cutPl 3 (by kernel_rfl),XU a6 d9,e8,a0⟩⟩
      ·
       rw [co,XV] at a0
       refine wp_exit ?_
       obtain rfl:=XZ a0
       exact XY ay ⟨az,bq,_,_,rfl,c0.kp,cd,a6,ca⟩
    ·
     rintro _ i5 ⟨ac,ad,au,dt,b7,rfl,fy,c9,a7,cz⟩
     refine XT (Aa (Rk 0 3 ((tS 46 ac x.length ad)::(tS 45 aq x_v12.length ar)::(DF late x_v13)) fy c9 fun jj fz=>?_))
     obtain⟨ax,a4,h0,da⟩:=c9.settle (i:=3) rfl
     replace bd:=bd.mono (XU a7 a4)
     replace be:=be.mono (XU a7 a4)
     replace bp:=bp.mono (XU a7 a4)
     replace a1:=a1.mono (XU a7 a4)
     replace a3:=a3.mono (XU a7 a4)
     replace bl:=bl.mono (XU a7 a4)
     replace cz:=cz.mono a4
     replace da:Ah ⟨w,h,A4⟩ ax [(a,0),(e,0),(g,0)] [⟨ET p r_ s q u y aa,some 28⟩,⟨F0,some 75⟩,⟨[.slice k x_v10.length l,.slice d x_v11.length f,.slice aq x_v12.length ar],some 75⟩] [⟨k,x_v10.length,l,3,1,an,0⟩,⟨d,x_v11.length,f,3,1,ao,0⟩,⟨aq,x_v12.length,ar,31,1,ap,0⟩,⟨ac,x.length,ad,3,1,au,(au:List Value).length⟩] i5:=da
     have hy:A8 ax ac ad x:=⟨_,cz,h0,c9.rowCap (i:=3) rfl⟩
     refine wl fun K hK=>?_
     refine wS 31 1 [.slice ac x.length ad] fz da fun bb ih j7 (f0:Kn 78 [(a,0),(e,0),(g,0)] ((tS 47 bb 1 1)::(tS 46 ac x.length ad)::(tS 45 aq x_v12.length ar)::(DF late x_v13)) ih) ec=>?_
     have ct:Ag ax ([x]:List (List Int)) ([.slice ac x.length ad]:List Value):=⟨_,_,rfl,((Ad hy):rep ax (x:List Int) _),rfl⟩
     refine hK _ _ ?_
     obtain⟨x48,ex48,ag⟩:=Aw ag
     obtain⟨dh,ha⟩:=AU ex48
     refine wl fun K hK=>?_
     refine AE 2 24 1 _ (x48.length) _ ([.slice ac x.length ad]:List Value) f0 ec rfl rfl (by decide) rfl (by rfl) (by kernel_rfl) (by rfl) (by rfl) (Ag.len ct) (ec.rowCell (i:=4) rfl) ct.one (by rw [dh]; simp <;> omega) (by rw [dh]; exact ha) (by decide) fun ae af ex ii j8 fj (f2:Kn 78 [(a,0),(e,0),(g,0)] ((tS 48 ae x48.length af)::(tS 47 bb 1 1)::(tS 46 ac x.length ad)::(tS 45 aq x_v12.length ar)::(DF late x_v13)) ii) ed=>?_
     have b8:Ag ax x48 (ap++([.slice ac x.length ad]:List Value)):=by rw [dh]; exact Ag.append bl ct
     obtain rfl:ex=0:=Nat.le_zero.1 fj
     refine hK _ _ ?_
     refine Rk 5 1 ((tP 49 2 2)::(tS 48 ae x48.length af)::(DF late x_v13)) f2 ed fun ij f3=>?_
     refine wl fun K hK=>?_
     refine EY 2 2 (.c (.slice ae x48.length af)) (Sc k x_v10 l d x_v11 f ae x48 af) f3 ed fun ev f4 a8=>hK _ _ ?_
     have f5:Kn 78 [(a,0),(e,0),(g,0)] (DF late x_v13) ij:=f4.kp
     refine wf (XT (Aa (Rk 0 5 ((tB 54 (decide (x_v13<((r_.buses.length:Nat):Int))))::(DF late x_v13)) f5 a8 fun jk c1=>?_)))
     refine wf (wC (decide (x_v13<((r_.buses.length:Nat):Int))) c1 (fun cp=>?_) (fun cp=>?_))
     ·
      rw [cp,XW] at ag
      refine Am (by kernel_rfl) ?_
      replace a8:=a8.drew
      refine An [15] [(a,0),(e,0),(g,0)] [⟨ET p r_ s q u y aa,some 28⟩,⟨F0,some 75⟩,⟨Sc k x_v10 l d x_v11 f ae x48 af,some 75⟩] ?_
      refine Dr [0,1,2,3,4] (dn 4) ((tI 59 x_v13)::(tS 58 q r_.buses.length u)::(tS 56 k x_v10.length l)::(DF late x_v13)) c1 a8 fun jl f6=>?_
      obtain⟨x60,ex60,ag⟩:=Aw ag
      obtain⟨hv,hx,h7⟩:=Ai ex60
      obtain⟨z,ab,i8,e6,h5,e9⟩:=be.get (by decide) h7
      obtain⟨_,_,rfl,rfl,⟨_,_,rfl,rfl,rfl⟩⟩:=h5
      have ee:=a8.addPlc (b:=z) (o:=ab+(x_v13:Int).toNat*3) (cs:=(PM x60)) (fun j c hj=>e9 j _ (Ak hj)) rfl (by kernel_rfl) (by kernel_rfl)
      refine Au 5 (x_v13) (PM x60) (fun _ _ _ _ _ h=>h) rfl rfl (rfl) rfl (by decide) (by kernel_rfl) (by kernel_rfl) f6 a8.plOk (by rfl) (by rfl) (by rfl) e6 (by rfl) hv hx (by kernel_rfl) fun ik (f8:Kn 78 (Dk a e g z ab x_v13) ((tP 60 3 0)::(tI 59 x_v13)::(tS 58 q r_.buses.length u)::(tS 56 k x_v10.length l)::(DF late x_v13)) ik)=>?_
      refine Dr [6,7,8,12,13,14,16] [16,14,13,12,8,7,6,5,4,3,2,1,0] (Jb late x_v13 d x_v11 f x60 k x_v10 l) f8 ee fun jm d6=>?_
      obtain⟨x64,ex64,ag⟩:=Aw ag
      obtain⟨x66,ex66,ag⟩:=Aw ag
      obtain⟨x72,ex72,ag⟩:=Aw ag
      obtain⟨x74,ex74,ag⟩:=Aw ag
      have ho:Ah ⟨w,h,A4⟩ ax (Dk a e g z ab x_v13) (Ja p r_ s q u y aa k x_v10 l d x_v11 f ae x48 af x60) [⟨k,x_v10.length,l,3,1,an,0⟩,⟨d,x_v11.length,f,3,1,ao,0⟩,⟨ae,x48.length,af,31,1,ap++([.slice ac x.length ad]:List Value),0⟩,⟨ac,x.length,ad,3,1,au,(au:List Value).length⟩,⟨bb,1,1,31,1,([.slice ac x.length ad]:List Value),0⟩,⟨none,0,0,3,1,[],0⟩] (World.drew ev):=ee.nilRow 3 1
      have ja:Ag ax ([]:List Int) []:=Ag.nil
      have bn:Ah ⟨w,h,A4⟩ ax (Dk a e g z ab x_v13) (Ja p r_ s q u y aa k x_v10 l d x_v11 f ae x48 af x60) [⟨k,x_v10.length,l,3,1,an,0⟩,⟨d,x_v11.length,f,3,1,ao,0⟩,⟨ae,x48.length,af,31,1,ap++([.slice ac x.length ad]:List Value),0⟩,⟨ac,x.length,ad,3,1,au,(au:List Value).length⟩,⟨bb,1,1,31,1,([.slice ac x.length ad]:List Value),0⟩,⟨none,0,0,3,1,[],0⟩,⟨none,0,0,3,1,[],0⟩] (World.drew ev):=ho.nilRow 3 1
      have jb:Ag ax ([]:List Int) []:=Ag.nil
      refine Bb (fun W=>∀ (av:Option Addr),∀ (aw:Nat),∀ (ch:List Value),∀ (dy:Option Addr),∀ (d1:Nat),∀ (du:List Value),∀ a' w',(∃ (dm:Array Value)(bj:Ae),a' = ⟨dm,[]⟩∧Kn 78 (Dk a e g z ab x_v13) (OJ r_ av x66 aw late x_v13 d x_v11 f) dm∧Ah ⟨w,h,A4⟩ bj (Dk a e g z ab x_v13) (Ja p r_ s q u y aa k x_v10 l d x_v11 f ae x48 af x60) [⟨av,x66.length,aw,3,1,ch,0⟩,⟨d,x_v11.length,f,3,1,ao,0⟩,⟨ae,x48.length,af,31,1,ap++([.slice ac x.length ad]:List Value),0⟩,⟨ac,x.length,ad,3,1,au,(au:List Value).length⟩,⟨bb,1,1,31,1,([.slice ac x.length ad]:List Value),0⟩,⟨dy,1,d1,3,1,du,0⟩,⟨none,0,0,3,1,[],0⟩] w'∧Ae.le ax bj∧Ag bj x66 ch∧Ag bj ([x64]:List Int) du)→W (Dk a e g z ab x_v13) (Ja p r_ s q u y aa k x_v10 l d x_v11 f ae x48 af x60) [20,11,10,9,15,16,14,13,12,8,7,6,5,4,3,2,1,0] a' w') ?_ (fun er=>?_)
      ·
       intro av aw ch dy d1 du
       rintro _ j9 ⟨dm,bj,rfl,f9,ef,c3,cu,jc⟩
       refine Dl 17 fun K hK=>?_
       refine wc [.agg (Is r_),.c (.bool ((Int.tmod (Int.fdiv late (2 ^ (min (IntKind.u64.wrap x_v13:Int).toNat 64))) 2) == 1))] f9 ef (HZ a9 ef.has r_.turn ((Ab Ac Ac):rep bj r_.turn _) ((Int.tmod (Int.fdiv late (2 ^ (min (IntKind.u64.wrap x_v13:Int).toNat 64))) 2) == 1) ex72) fun jy cl ka e2 cb eg=>?_
       replace cu:=cu.mono cb
       replace a3:=a3.mono (XU c3 cb)
       replace b8:=b8.mono (XU c3 cb)
       obtain rfl:=e2
       refine⟨.one (.c (.int .i64 x72)),rfl,fun im (ga:Kn 78 (Dk a e g z ab x_v13) ((tI 72 x72)::(OJ r_ av x66 aw late x_v13 d x_v11 f)) im)=>hK _ _ eg.plOk ?_⟩
       refine Dl 18 fun K hK=>?_
       refine BE 6 rfl rfl 3 1 [.int .i64 x72] ga eg rfl rfl (by decide) (by kernel_rfl) (by rfl) (by rfl) rfl (by decide) fun dz io kb (gc:Kn 78 (Dk a e g z ab x_v13) ((tS 73 dz 1 1)::(tI 72 x72)::(OJ r_ av x66 aw late x_v13 d x_v11 f)) io) db=>?_
       have cv:Ag cl ([x72]:List Int) ([.int .i64 x72]:List Value):=⟨_,_,rfl,(Ac:rep cl (x72:Int) _),rfl⟩
       refine hK _ _ db.plOk ?_
       refine Dl 19 fun K hK=>?_
       obtain⟨di,hb⟩:=AU ex74
       refine AE 1 8 1 _ (x74.length) _ ([.int .i64 x72]:List Value) gc db rfl rfl (by decide) rfl (by rfl) (by kernel_rfl) (by rfl) (by rfl) (Ag.len cv) (db.rowCell (i:=6) rfl) cv.one (by rw [di]; simp <;> omega) (by rw [di]; exact hb) (by decide) fun bh bi ey ip kc fk (gd:Kn 78 (Dk a e g z ab x_v13) ((tS 74 bh x74.length bi)::(tS 73 dz 1 1)::(tI 72 x72)::(OJ r_ av x66 aw late x_v13 d x_v11 f)) ip) ei=>?_
       have fa:Ag cl x74 (ao++([.int .i64 x72]:List Value)):=by rw [di]; exact Ag.append a3 cv
       obtain rfl:ey=0:=Nat.le_zero.1 fk
       refine hK _ _ ei.plOk ?_
       refine Cv 21 rfl (by kernel_rfl) (by decide) (rfl) (by kernel_rfl) fun K hK=>?_
       refine EY 2 0 (.c (.slice av x66.length aw)) [.slice av x66.length aw,.slice d x_v11.length f,.slice ae x48.length af] gd ei fun kd gf ej=>hK _ _ ?_
       refine An [15] (Dk a e g z ab x_v13) [⟨ET p r_ s q u y aa,some 28⟩,⟨F0,some 75⟩,⟨[.slice av x66.length aw,.slice d x_v11.length f,.slice ae x48.length af],some 75⟩,⟨PM x60,none⟩] ?_
       refine Dr [22] [22,21,19,18,17,20,11,10,9,15,16,14,13,12,8,7,6,5,4,3,2,1,0] ((tP 76 2 1)::(tS 74 bh x74.length bi)::(GB x_v13 late)) gf ej fun iq gg=>?_
       refine Cv 23 rfl (by kernel_rfl) (by decide) (rfl) (by kernel_rfl) fun K hK=>?_
       refine EY 2 1 (.c (.slice bh x74.length bi)) [.slice av x66.length aw,.slice bh x74.length bi,.slice ae x48.length af] gg ej fun ke gh ek=>hK _ _ ?_
       refine An [15] (Dk a e g z ab x_v13) [⟨ET p r_ s q u y aa,some 28⟩,⟨F0,some 75⟩,⟨[.slice av x66.length aw,.slice bh x74.length bi,.slice ae x48.length af],some 75⟩,⟨PM x60,none⟩] ?_
       have gi:Kn 78 (Dk a e g z ab x_v13) (GB x_v13 late) iq:=gh.kp
       refine A3 (by kernel_rfl) (Aa (Rk 0 3 [tI 6 (IntKind.i64.wrap (x_v13+1)),tP 5 2 0,tP 4 1 0,tP 2 0 0,tI 1 late] gi ek fun jo gj=>?_))
       refine wf ?_
       exact XY a9 ⟨Nat.lt_succ_self _,XY x66 ⟨x74,x48,IntKind.i64.wrap (x_v13+1),av,aw,ch,bh,bi,ao++([.int .i64 x72]:List Value),ae,af,ap++([.slice ac x.length ad]:List Value),_,_,rfl,(gj.keep [6,5,4,2,1] (by rfl)).cut 3 (by kernel_rfl),(ek.cutRw 3).cutPl 3 (by kernel_rfl),XU bm (XU a7 (XU a4 (XU c3 cb))),cu,fa,b8,ag⟩⟩
      refine Bb (fun W=>∀ (br:Option Addr),∀ (bu:Nat),∀ (bf:List Value),∀ a' w',(∃ (dp:Array Value)(bw:Ae),a' = ⟨dp,[]⟩∧Kn 78 (Dk a e g z ab x_v13) ((tA 70 (Is r_))::(tS 65 br 1 bu)::(OM late x_v13 d x_v11 f k x_v10 l)) dp∧Ah ⟨w,h,A4⟩ bw (Dk a e g z ab x_v13) (Ja p r_ s q u y aa k x_v10 l d x_v11 f ae x48 af x60) [⟨k,x_v10.length,l,3,1,an,0⟩,⟨d,x_v11.length,f,3,1,ao,0⟩,⟨ae,x48.length,af,31,1,ap++([.slice ac x.length ad]:List Value),0⟩,⟨ac,x.length,ad,3,1,au,(au:List Value).length⟩,⟨bb,1,1,31,1,([.slice ac x.length ad]:List Value),0⟩,⟨br,1,bu,3,1,bf,0⟩,⟨none,0,0,3,1,[],0⟩] w'∧Ae.le ax bw∧Ag bw ([x64]:List Int) bf)→W (Dk a e g z ab x_v13) (Ja p r_ s q u y aa k x_v10 l d x_v11 f ae x48 af x60) [10,9,15,16,14,13,12,8,7,6,5,4,3,2,1,0] a' w') ?_ (fun es=>?_)
      ·
       intro br bu bf
       rintro _ kf ⟨dp,bw,rfl,gl,el,ea,b9⟩
       replace a1:=a1.mono ea
       refine Dl 11 fun K hK=>?_
       obtain⟨dj,hc⟩:=AU ex66
       refine AE 0 8 1 _ (x66.length) _ bf gl el rfl rfl (by decide) rfl (by rfl) (by kernel_rfl) (by rfl) (by rfl) (Ag.len b9) (el.rowCell (i:=5) rfl) b9.one (by rw [dj]; simp <;> omega) (by rw [dj]; exact hc) (by decide) fun ci cj ez ir kg fl (gm:Kn 78 (Dk a e g z ab x_v13) ((tS 66 ci x66.length cj)::(tA 70 (Is r_))::(tS 65 br 1 bu)::(OM late x_v13 d x_v11 f k x_v10 l)) ir) dc=>?_
       have fc:Ag bw x66 (an++bf):=by rw [dj]; exact Ag.append a1 b9
       obtain rfl:ez=0:=Nat.le_zero.1 fl
       refine hK _ _ dc.plOk ?_
       refine Dr [20] [20,11,10,9,15,16,14,13,12,8,7,6,5,4,3,2,1,0] ((tP 75 2 0)::(tS 66 ci x66.length cj)::(tA 70 (Is r_))::(tB 71 ((Int.tmod (Int.fdiv late (2 ^ (min (IntKind.u64.wrap x_v13:Int).toNat 64))) 2) == 1))::(tS 68 d x_v11.length f)::(GB x_v13 late)) gm dc fun jp gn=>?_
       refine A1 [20,11,10,9,15,16,14,13,12,8,7,6,5,4,3,2,1,0] (by kernel_rfl) (by rfl) (er ci cj (an++bf) br bu bf _ _ ?_)
       exact XY _ ⟨_,rfl,gn.kp,dc,ea,fc,b9⟩
      refine Bb (fun W=>∀ a' w',(∃ (dq:Array Value)(bx:Ae),a' = ⟨dq,[]⟩∧Kn 78 (Dk a e g z ab x_v13) ((tA 70 (Is r_))::(tI 64 x64)::(OM late x_v13 d x_v11 f k x_v10 l)) dq∧Ah ⟨w,h,A4⟩ bx (Dk a e g z ab x_v13) (Ja p r_ s q u y aa k x_v10 l d x_v11 f ae x48 af x60) [⟨k,x_v10.length,l,3,1,an,0⟩,⟨d,x_v11.length,f,3,1,ao,0⟩,⟨ae,x48.length,af,31,1,ap++([.slice ac x.length ad]:List Value),0⟩,⟨ac,x.length,ad,3,1,au,(au:List Value).length⟩,⟨bb,1,1,31,1,([.slice ac x.length ad]:List Value),0⟩,⟨none,0,0,3,1,[],0⟩,⟨none,0,0,3,1,[],0⟩] w'∧Ae.le ax bx)→W (Dk a e g z ab x_v13) (Ja p r_ s q u y aa k x_v10 l d x_v11 f ae x48 af x60) [9,15,16,14,13,12,8,7,6,5,4,3,2,1,0] a' w') ?_ (fun et=>?_)
      ·
       rintro _ kh ⟨dq,bx,rfl,go,hq,he⟩
       refine Dl 10 fun K hK=>?_
       refine BE 5 rfl rfl 3 1 [.int .i64 x64] go hq rfl rfl (by decide) (by kernel_rfl) (by rfl) (by rfl) rfl (by decide) fun d0 iu ki (gp:Kn 78 (Dk a e g z ab x_v13) ((tS 65 d0 1 1)::(tA 70 (Is r_))::(tI 64 x64)::(OM late x_v13 d x_v11 f k x_v10 l)) iu) em=>?_
       have fd:Ag bx ([x64]:List Int) ([.int .i64 x64]:List Value):=⟨_,_,rfl,(Ac:rep bx (x64:Int) _),rfl⟩
       refine hK _ _ em.plOk ?_
       refine A1 [10,9,15,16,14,13,12,8,7,6,5,4,3,2,1,0] (by kernel_rfl) (by rfl) (es d0 1 ([.int .i64 x64]:List Value) _ _ ?_)
       exact XY _ ⟨_,rfl,gp.kp,em,he,fd⟩
      refine Dy 9 15 rfl rfl (by kernel_rfl) (by decide) (rfl) (rfl) (fun K hK=>?_) (fun K hK=>?_)
      ·
       refine wc [.agg (Sb x60),.c (.bool ((Int.tmod (Int.fdiv late (2 ^ (min (IntKind.u64.wrap x_v13:Int).toNat 64))) 2) == 1))] d6 bn (HZ a9 bn.has x60.tm ((Ab Ac Ac):rep ax x60.tm _) ((Int.tmod (Int.fdiv late (2 ^ (min (IntKind.u64.wrap x_v13:Int).toNat 64))) 2) == 1) ex64) fun jz cm kj e3 cc b0=>?_
       replace a1:=a1.mono cc
       obtain rfl:=e3
       refine⟨.one (.c (.int .i64 x64)),rfl,fun iv (d7:Kn 78 (Dk a e g z ab x_v13) ((tI 64 x64)::(Jb late x_v13 d x_v11 f x60 k x_v10 l)) iv)=>hK _ _ b0.plOk ?_⟩
       refine Dy 10 15 rfl rfl (by kernel_rfl) (by decide) (rfl) (rfl) (fun K hK=>?_) (fun K hK=>?_)
       ·
        refine BE 5 rfl rfl 3 1 [.int .i64 x64] d7 b0 rfl rfl (by decide) (by kernel_rfl) (by rfl) (by rfl) rfl (by decide) fun bs iw kk (d8:Kn 78 (Dk a e g z ab x_v13) ((tS 65 bs 1 1)::(tI 64 x64)::(Jb late x_v13 d x_v11 f x60 k x_v10 l)) iw) bo=>?_
        have bz:Ag cm ([x64]:List Int) ([.int .i64 x64]:List Value):=⟨_,_,rfl,(Ac:rep cm (x64:Int) _),rfl⟩
        refine hK _ _ bo.plOk ?_
        refine Dy 11 15 rfl rfl (by kernel_rfl) (by decide) (rfl) (rfl) (fun K hK=>?_) (fun K hK=>?_)
        ·
         obtain⟨dk,hd⟩:=AU ex66
         refine AE 0 8 1 _ (x66.length) _ ([.int .i64 x64]:List Value) d8 bo rfl rfl (by decide) rfl (by rfl) (by kernel_rfl) (by rfl) (by rfl) (Ag.len bz) (bo.rowCell (i:=5) rfl) bz.one (by rw [dk]; simp <;> omega) (by rw [dk]; exact hd) (by decide) fun b4 b6 e0 ix kl fm (gq:Kn 78 (Dk a e g z ab x_v13) ((tS 66 b4 x66.length b6)::(tS 65 bs 1 1)::(tI 64 x64)::(Jb late x_v13 d x_v11 f x60 k x_v10 l)) ix) b1=>?_
         have fg:Ag cm x66 (an++([.int .i64 x64]:List Value)):=by rw [dk]; exact Ag.append a1 bz
         obtain rfl:e0=0:=Nat.le_zero.1 fm
         refine hK _ _ b1.plOk ?_
         refine Dr [20] [20,11,10,9,16,14,13,12,8,7,6,5,4,3,2,1,0] ((tP 75 2 0)::(tS 66 b4 x66.length b6)::(tB 71 ((Int.tmod (Int.fdiv late (2 ^ (min (IntKind.u64.wrap x_v13:Int).toNat 64))) 2) == 1))::(tP 69 0 1)::(tS 68 d x_v11.length f)::(GB x_v13 late)) gq b1 fun jq gr=>?_
         refine Dl 15 fun K hK=>?_
         refine AZ gr b1.plOk rfl (by decide) (by kernel_rfl) fun iy (gs:Kn 78 (Dk a e g z ab x_v13) ((tA 70 (Is r_))::(tP 75 2 0)::(tS 66 b4 x66.length b6)::(tB 71 ((Int.tmod (Int.fdiv late (2 ^ (min (IntKind.u64.wrap x_v13:Int).toNat 64))) 2) == 1))::(tP 69 0 1)::(tS 68 d x_v11.length f)::(GB x_v13 late)) iy)=>hK _ _ b1.plOk ?_
         refine A1 [20,11,10,9,15,16,14,13,12,8,7,6,5,4,3,2,1,0] (by kernel_rfl) (by rfl) (er b4 b6 (an++([.int .i64 x64]:List Value)) bs 1 ([.int .i64 x64]:List Value) _ _ ?_)
         exact XY _ ⟨_,rfl,gs.kp,b1,cc,fg,bz⟩
        ·
         refine AZ d8 bo.plOk rfl (by decide) (by kernel_rfl) fun iz (gu:Kn 78 (Dk a e g z ab x_v13) ((tA 70 (Is r_))::(tS 65 bs 1 1)::(tI 64 x64)::(Jb late x_v13 d x_v11 f x60 k x_v10 l)) iz)=>hK _ _ bo.plOk ?_
         refine A1 [10,9,15,16,14,13,12,8,7,6,5,4,3,2,1,0] (by kernel_rfl) (by rfl) (es bs 1 ([.int .i64 x64]:List Value) _ _ ?_)
         exact XY _ ⟨_,rfl,gu.kp,bo,cc,bz⟩
       ·
        refine AZ d7 b0.plOk rfl (by decide) (by kernel_rfl) fun i0 (gv:Kn 78 (Dk a e g z ab x_v13) ((tA 70 (Is r_))::(tI 64 x64)::(Jb late x_v13 d x_v11 f x60 k x_v10 l)) i0)=>hK _ _ b0.plOk ?_
        refine A1 [9,15,16,14,13,12,8,7,6,5,4,3,2,1,0] (by kernel_rfl) (by rfl) (et _ _ ?_)
        exact XY _ ⟨_,rfl,gv.kp,b0,cc⟩
      ·
       refine AZ d6 bn.plOk rfl (by decide) (by kernel_rfl) fun i1 (gw:Kn 78 (Dk a e g z ab x_v13) ((tA 70 (Is r_))::(Jb late x_v13 d x_v11 f x60 k x_v10 l)) i1)=>hK _ _ bn.plOk ?_
       refine Dl 9 fun K hK=>?_
       refine wc [.agg (Sb x60),.c (.bool ((Int.tmod (Int.fdiv late (2 ^ (min (IntKind.u64.wrap x_v13:Int).toNat 64))) 2) == 1))] gw bn (HZ a9 bn.has x60.tm ((Ab Ac Ac):rep ax x60.tm _) ((Int.tmod (Int.fdiv late (2 ^ (min (IntKind.u64.wrap x_v13:Int).toNat 64))) 2) == 1) ex64) fun j0 i9 km e4 hf en=>?_
       obtain rfl:=e4
       refine⟨.one (.c (.int .i64 x64)),rfl,fun i2 (gx:Kn 78 (Dk a e g z ab x_v13) ((tI 64 x64)::(tA 70 (Is r_))::(Jb late x_v13 d x_v11 f x60 k x_v10 l)) i2)=>hK _ _ en.plOk ?_⟩
       refine A1 [9,15,16,14,13,12,8,7,6,5,4,3,2,1,0] (by kernel_rfl) (by rfl) (et _ _ ?_)
       exact XY _ ⟨_,rfl,gx.kp,en,hf⟩
     ·
      rw [cp,XV] at ag
      refine wp_skip (Aa (Rk 0 3 [tI 6 (IntKind.i64.wrap (x_v13+1)),tP 5 2 0,tP 4 1 0,tP 2 0 0,tI 1 late] c1 a8 fun jr gy=>?_))
      refine wf ?_
      exact XY a9 ⟨Nat.lt_succ_self _,XY x_v10 ⟨x_v11,x48,IntKind.i64.wrap (x_v13+1),k,l,an,d,f,ao,ae,af,ap++([.slice ac x.length ad]:List Value),_,_,rfl,gy.kp,a8.cutRw 3,XU bm (XU a7 a4),a1,a3,b8,ag⟩⟩
   ·
    rw [cq,XV] at ag
    refine wp_exit ?_
    obtain rfl:=XZ ag
    exact XY k ⟨l,an,d,f,ao,aq,ar,ap,_,_,rfl,c2.kp,bc,bm,a1,a3,bl⟩
 ·
  rintro _ kn ⟨ah,ak,a5,ai,al,ba,aj,am,bg,dr,bk,rfl,gz,eo,jd,cw,cx,cy⟩
  refine XT (Aa (Rk 0 1 [tA 77 (IZ ah m ak ai al aj am),tP 4 1 0] gz eo fun i3 g0=>?_))
  refine wl fun K hK=>?_
  refine EY 1 0 (.agg (IZ ah m ak ai al aj am)) (IZ ah m ak ai al aj am) g0 eo fun dw g1 ep=>hK _ _ ?_
  have g2:Kn 78 [(a,0),(e,0),(g,0)] [tP 4 1 0] i3:=g1.kp
  refine wf (wp_ret ?_)
  obtain⟨d4,c4,h1,ce⟩:=ep.settle (i:=0) rfl
  replace cw:=cw.mono c4
  replace ce:Ah ⟨w,h,A4⟩ d4 [(a,0),(e,0),(g,0)] [⟨ET p r_ s q u y aa,some 28⟩,⟨IZ ah m ak ai al aj am,some 75⟩,⟨IZ ah m ak ai al aj am,some 75⟩] [⟨ah,m.1.length,ak,3,1,a5,(a5:List Value).length⟩,⟨ai,m.2.1.length,al,3,1,ba,0⟩,⟨aj,m.2.2.length,am,31,1,bg,0⟩] dw:=ce
  have de:A8 d4 ah ak m.1:=⟨_,cw,h1,ep.rowCap (i:=0) rfl⟩
  obtain⟨d5,c5,h2,cf⟩:=ce.settle (i:=1) rfl
  replace cx:=cx.mono (XU c4 c5)
  replace cf:Ah ⟨w,h,A4⟩ d5 [(a,0),(e,0),(g,0)] [⟨ET p r_ s q u y aa,some 28⟩,⟨IZ ah m ak ai al aj am,some 75⟩,⟨IZ ah m ak ai al aj am,some 75⟩] [⟨ah,m.1.length,ak,3,1,a5,(a5:List Value).length⟩,⟨ai,m.2.1.length,al,3,1,ba,(ba:List Value).length⟩,⟨aj,m.2.2.length,am,31,1,bg,0⟩] dw:=cf
  have df:A8 d5 ai al m.2.1:=⟨_,cx,h2,ce.rowCap (i:=1) rfl⟩
  obtain⟨cn,c6,h3,dd⟩:=cf.settle (i:=2) rfl
  replace de:=de.mono (XU c5 c6)
  replace df:=df.mono c6
  replace cy:=cy.mono (XU (XU c4 c5) c6)
  replace dd:Ah ⟨w,h,A4⟩ cn [(a,0),(e,0),(g,0)] [⟨ET p r_ s q u y aa,some 28⟩,⟨IZ ah m ak ai al aj am,some 75⟩,⟨IZ ah m ak ai al aj am,some 75⟩] [⟨ah,m.1.length,ak,3,1,a5,(a5:List Value).length⟩,⟨ai,m.2.1.length,al,3,1,ba,(ba:List Value).length⟩,⟨aj,m.2.2.length,am,31,1,bg,(bg:List Value).length⟩] dw:=dd
  have hz:A8 cn aj am m.2.2:=⟨_,cy,h3,cf.rowCap (i:=2) rfl⟩
  obtain rfl:=XZ H
  exact rt (.one (.agg (IZ ah m ak ai al aj am))) g2 dd ⟨_,rfl,((Ab (Ad de) (Ab (Ad df) (Ad hz))):rep cn ((Ay.mk m.1 m.2.1 m.2.2):Ay) _)⟩
abbrev HB (l m p y:Nat) (x_v21:Int):Be:=[(l,0),(m,0),(p,0),(y,0+(x_v21:Int).toNat*1)]
abbrev Ew (ae:Option Addr) (t_:Ay) (an:Nat) (af:Option Addr) (ao:Nat) (ag:Option Addr) (ap:Nat):List SC:=[.slice ae t_.tm.length an,.slice af t_.turns.length ao,.slice ag t_.legs.length ap]
abbrev Ey (ab:Option Addr) (a:Ao) (aj:Nat) (ac:Option Addr) (ak:Nat) (ad:Option Addr) (al:Nat):List SC:=[.slice ab a.holds.length aj,.slice ac a.turns.length ak,.slice ad a.spares.length al]
abbrev PO (l m p bp bu:Nat) (x_v11:Int) (bw b3:Nat) (stop:Int):Be:=[(l,0),(m,0),(p,0),(bp,bu+(x_v11:Int).toNat*1),(bw,b3+(stop:Int).toNat*1)]
abbrev Ez (aa:Option Addr) (r_:Af) (am:Nat) (ah:Option Addr) (aq:Nat) (ai:Option Addr) (ar:Nat):List SC:=[.slice aa r_.legs.length am,.int .i64 r_.turn.lo,.int .i64 r_.turn.hi,.slice ah r_.buses.length aq,.slice ai r_.spares.length ar,.int .i64 r_.unit,.int .i64 r_.gap,.int .i64 r_.fr,.int .i64 r_.to_]
abbrev Jc (x_v41:Int) (q:Option Addr) (x_v40:List Int) (s:Nat) (x_v21:Int) (f:Option Addr) (d:List Int) (g:Nat):TM:=[tI 17 x_v41,tS 13 q x_v40.length s,tI 14 x_v21,tS 9 f d.length g]
abbrev Fs (x_v21:Int) (u:Option Addr) (x_v20:List Int) (x:Nat) (f:Option Addr) (d:List Int) (g:Nat):TM:=[tI 14 x_v21,tS 13 u x_v20.length x,tS 9 f d.length g]
abbrev JK (x_v11:Int) (au:Option Addr) (x26:List (List Int)) (av:Nat) (ax:Option Addr) (x_v10:List Int) (ay:Nat) (stop:Int):TM:=[tI 11 x_v11,tS 10 au x26.length av,tS 9 ax x_v10.length ay,tP 4 0 0,tI 3 stop]
abbrev Ob (x_v41:Int) (q:Option Addr) (x_v40:List Int) (s:Nat) (x_v21:Int) (f:Option Addr) (d:List Int) (g:Nat):TM:=(tI 105 (IntKind.i64.wrap (x_v41-1)))::(tS 103 q x_v40.length s)::(tI 102 x_v41)::(tS 101 q x_v40.length s)::(Jc x_v41 q x_v40 s x_v21 f d g)
set_option maxRecDepth 100000 in
set_option maxHeartbeats 4000000 in
theorem ON (n:Nat) {h:Ae} {w:World} (hh:CU h w) (r_:Af) {cs_r_:List Value} (hx_r_:rep h r_ cs_r_) (a:Ao) {cs_a:List Value} (hx_a:rep h a cs_a) (t_:Ay) {cs_t_:List Value} (hx_t_:rep h t_ cs_t_) (stop:Int) {r:List Int} (H:Hz n r_ a t_ stop=some r) :
  Calls Try.prog 70 #[.agg cs_r_.toArray,.agg cs_a.toArray,.agg cs_t_.toArray,.int .i64 stop] w (Da (fun h v=>∃ a c,v=.slice a r.length c∧A8 h a c r) h w):=by
 obtain⟨_,_,rfl,⟨aa,am,rfl,be⟩,⟨_,_,rfl,⟨_,_,rfl,rfl,rfl⟩,⟨_,_,rfl,⟨ah,aq,rfl,bf⟩,⟨_,_,rfl,⟨ai,ar,rfl,bg⟩,⟨_,_,rfl,rfl,⟨_,_,rfl,rfl,⟨_,_,rfl,rfl,rfl⟩⟩⟩⟩⟩⟩⟩:=hx_r_
 obtain⟨_,_,rfl,⟨ab,aj,rfl,a8⟩,⟨_,_,rfl,⟨ac,ak,rfl,a9⟩,⟨ad,al,rfl,ba⟩⟩⟩:=hx_a
 obtain⟨_,_,rfl,⟨ae,an,rfl,bb⟩,⟨_,_,rfl,⟨af,ao,rfl,bc⟩,⟨ag,ap,rfl,bd⟩⟩⟩:=hx_t_
 refine enter 118 [.agg (Ez aa r_ am ah aq ai ar),.agg (Ey ab a aj ac ak ad al),.agg (Ew ae t_ an af ao ag ap),.c (.int .i64 stop)] Try.func70 rfl rfl rfl rfl fun t hk=>?_
 have hm:=Ah.begin h w hh
 unfold Hz at H
 refine XT (Aa (wl fun K hK=>?_))
 refine wb (.agg (Ez aa r_ am ah aq ai ar)) hk hm fun l k9 nr (ig:Kn 118 [(l,0)] [tP 4 0 0,tA 0 (Ez aa r_ am ah aq ai ar),tA 1 (Ey ab a aj ac ak ad al),tA 2 (Ew ae t_ an af ao ag ap),tI 3 stop] k9) jy=>hK _ _ ?_
 refine wl fun K hK=>?_
 refine wb (.agg (Ey ab a aj ac ak ad al)) ig jy fun m lc nu (im:Kn 118 [(l,0),(m,0)] [tP 5 1 0,tP 4 0 0,tA 0 (Ez aa r_ am ah aq ai ar),tA 1 (Ey ab a aj ac ak ad al),tA 2 (Ew ae t_ an af ao ag ap),tI 3 stop] lc) jz=>hK _ _ ?_
 refine wl fun K hK=>?_
 refine wb (.agg (Ew ae t_ an af ao ag ap)) im jz fun p lg nw (ix:Kn 118 [(l,0),(m,0),(p,0)] [tP 6 2 0,tP 5 1 0,tP 4 0 0,tA 0 (Ez aa r_ am ah aq ai ar),tA 1 (Ey ab a aj ac ak ad al),tA 2 (Ew ae t_ an af ao ag ap),tI 3 stop] lg) eh=>hK _ _ ?_
 refine Rk 3 1 [tP 6 2 0,tP 5 1 0,tP 4 0 0,tI 3 stop] ix eh fun m5 i3=>?_
 refine wf (XT (Aa (Rk 0 4 [tI 21 r_.to_,tI 19 r_.fr,tP 6 2 0,tP 5 1 0,tP 4 0 0,tI 3 stop] i3 eh fun m6 i6=>?_)))
 refine wl fun K hK=>?_
 refine wS 3 1 [.int .i64 r_.fr,.int .i64 r_.to_] i6 eh fun b7 lj ny (je:Kn 118 [(l,0),(m,0),(p,0)] [tS 22 b7 2 2,tI 21 r_.to_,tI 19 r_.fr,tP 6 2 0,tP 5 1 0,tP 4 0 0,tI 3 stop] lj) de=>?_
 have d3:Ag h ([r_.fr,r_.to_]:List Int) ([.int .i64 r_.fr,.int .i64 r_.to_]:List Value):=⟨_,_,rfl,(Ac:rep h (r_.fr:Int) _),⟨_,_,rfl,(Ac:rep h (r_.to_:Int) _),rfl⟩⟩
 refine hK _ _ ?_
 refine Rk 5 1 [tS 9 b7 2 2,tP 6 2 0,tP 5 1 0,tP 4 0 0,tI 3 stop] je de fun na jf=>?_
 refine wf (XT (Aa (Rk 0 3 [tA 25 (Ew ae t_ an af ao ag ap),tA 24 (Ey ab a aj ac ak ad al),tA 23 (Ez aa r_ am ah aq ai ar),tS 9 b7 2 2,tP 4 0 0,tI 3 stop] jf de fun nb jg=>?_)))
 obtain⟨x26,ex26,H⟩:=Aw H
 refine wl fun K hK=>?_
 refine wc [.agg (Ez aa r_ am ah aq ai ar),.agg (Ey ab a aj ac ak ad al),.agg (Ew ae t_ an af ao ag ap)] jg de (Q4 n de.has r_ ((Ab (Ad be) (Ab (Ab Ac Ac) (Ab (Ad bf) (Ab (Ad bg) (Ab Ac (Ab Ac (Ab Ac Ac))))))):rep h r_ _) a ((Ab (Ad a8) (Ab (Ad a9) (Ad ba))):rep h a _) t_ ((Ab (Ad bb) (Ab (Ad bc) (Ad bd))):rep h t_ _) ex26) fun ni e9 nz go bl el=>?_
 replace be:=be.mono bl
 replace bf:=bf.mono bl
 replace bg:=bg.mono bl
 replace a8:=a8.mono bl
 replace a9:=a9.mono bl
 replace ba:=ba.mono bl
 replace bb:=bb.mono bl
 replace bc:=bc.mono bl
 replace bd:=bd.mono bl
 replace d3:=d3.mono bl
 obtain⟨au,av,rfl,em⟩:=go
 refine⟨.one (.c (.slice au x26.length av)),rfl,fun lk (jh:Kn 118 [(l,0),(m,0),(p,0)] [tS 26 au x26.length av,tA 25 (Ew ae t_ an af ao ag ap),tA 24 (Ey ab a aj ac ak ad al),tA 23 (Ez aa r_ am ah aq ai ar),tS 9 b7 2 2,tP 4 0 0,tI 3 stop] lk)=>hK _ _ ?_⟩
 refine Rk 4 1 [tS 10 au x26.length av,tS 9 b7 2 2,tP 4 0 0,tI 3 stop] jh el fun nc ji=>?_
 refine wf (XT (XT (Aa (Rk 0 1 [tI 11 0,tS 10 au x26.length av,tS 9 b7 2 2,tP 4 0 0,tI 3 stop] ji el fun nd jj=>?_))))
 refine wf ?_
 obtain⟨d,e7,H⟩:=Aw H
 refine Az (fun a' w'=>∃ (f:Option Addr)(g:Nat)(a1:List Value)(ez:Array Value)(b1:Ae),a' = ⟨ez,[]⟩∧Kn 118 [(l,0),(m,0),(p,0)] [tS 9 f d.length g] ez∧Ah ⟨w,h,A4⟩ b1 [(l,0),(m,0),(p,0)] [⟨Ez aa r_ am ah aq ai ar,some 28⟩,⟨Ey ab a aj ac ak ad al,some 50⟩,⟨Ew ae t_ an af ao ag ap,some 75⟩] [⟨f,d.length,g,3,1,a1,0⟩] w'∧Ae.le e9 b1∧Ag b1 d a1) ?_ ?_
 ·
  refine wp_block ?_
  refine Ar (fun k1 a' w'=>∃ (x_v10:List Int)(x_v11:Int)(ax:Option Addr)(ay:Nat)(cb:List Value)(e0:Array Value)(c5:Ae),a' = ⟨e0,[]⟩∧Kn 118 [(l,0),(m,0),(p,0)] (JK x_v11 au x26 av ax x_v10 ay stop) e0∧Ah ⟨w,h,A4⟩ c5 [(l,0),(m,0),(p,0)] [⟨Ez aa r_ am ah aq ai ar,some 28⟩,⟨Ey ab a aj ac ak ad al,some 50⟩,⟨Ew ae t_ an af ao ag ap,some 75⟩] [⟨ax,x_v10.length,ay,3,1,cb,0⟩] w'∧Ae.le e9 c5∧Ag c5 x_v10 cb∧CW k1 r_ stop x26 x_v10 x_v11=some d) n ?_ ?_
  ·
   exact XY ([r_.fr,r_.to_]:List Int) ⟨0,b7,2,([.int .i64 r_.fr,.int .i64 r_.to_]:List Value),_,_,rfl,jj.kp,el,Ae.le_refl _,d3,e7⟩
  ·
   rintro cx _ n0 ⟨x_v10,x_v11,ax,ay,cb,e0,c5,rfl,jk,df,a7,ct,a0⟩
   clear e7
   obtain _ | cx:=cx
   ·
    rw [CW] at a0; cases a0
   rw [CW] at a0
   replace be:=be.mono a7
   replace bf:=bf.mono a7
   replace bg:=bg.mono a7
   replace a8:=a8.mono a7
   replace a9:=a9.mono a7
   replace ba:=ba.mono a7
   replace bb:=bb.mono a7
   replace bc:=bc.mono a7
   replace bd:=bd.mono a7
   replace em:=em.mono a7
   refine XT (XT (Aa (Rk 0 4 ((tB 30 (decide (x_v11<((x26.length:Nat):Int))))::(JK x_v11 au x26 av ax x_v10 ay stop)) jk df fun nf d9=>?_)))
   refine wf (wC (decide (x_v11<((x26.length:Nat):Int))) d9 (fun dy=>?_) (fun dy=>?_))
   ·
    rw [dy,XW] at a0
    refine wp_skip (XT (wp_block (XT (Aa (Rk 0 2 ((tI 34 x_v11)::(tS 33 au x26.length av)::(JK x_v11 au x26 av ax x_v10 ay stop)) d9 df fun ng jl=>?_)))))
    obtain⟨x35,ex35,a0⟩:=Aw a0
    obtain⟨j4,j6,km⟩:=Ai ex35
    obtain⟨bp,bu,lq,gp,kb,gr⟩:=em.get (by decide) km
    obtain⟨dj,dm,rfl,j8⟩:=kb
    have fl:=df.addPlc (b:=bp) (o:=bu+(x_v11:Int).toNat*1) (cs:=[.slice dj x35.length dm]) (fun j c hj=>gr j _ (Ak hj)) rfl (by kernel_rfl) (by kernel_rfl)
    refine Bl 2 (x_v11) rfl rfl (rfl) rfl (by decide) jl (by rfl) (by rfl) (by rfl) gp (by rfl) j4 j6 (by kernel_rfl) fun k2 (hb:Kn 118 [(l,0),(m,0),(p,0),(bp,bu+(x_v11:Int).toNat*1)] ((tP 35 3 0)::(tI 34 x_v11)::(tS 33 au x26.length av)::(JK x_v11 au x26 av ax x_v10 ay stop)) k2)=>?_
    refine Rk 3 2 ((tI 37 stop)::(tS 36 dj x35.length dm)::(JK x_v11 au x26 av ax x_v10 ay stop)) hb fl fun l9 hc=>?_
    obtain⟨x38,ex38,a0⟩:=Aw a0
    obtain⟨j5,j7,kn⟩:=Ai ex38
    obtain⟨bw,b3,lr,gq,kc,gs⟩:=j8.get (by decide) kn
    obtain rfl:=kc
    have db:=fl.addPlc (b:=bw) (o:=b3+(stop:Int).toNat*1) (cs:=[.int .i64 x38]) (fun j c hj=>gs j _ (Ak hj)) rfl (by kernel_rfl) (by kernel_rfl)
    refine Bl 5 (stop) rfl rfl (rfl) rfl (by decide) hc (by rfl) (by rfl) (by rfl) gq (by rfl) j5 j7 (by kernel_rfl) fun k3 (hd:Kn 118 (PO l m p bp bu x_v11 bw b3 stop) ((tP 38 4 0)::(tI 37 stop)::(tS 36 dj x35.length dm)::(JK x_v11 au x26 av ax x_v10 ay stop)) k3)=>?_
    refine Rk 6 2 ((tI 12 x38)::(JK x_v11 au x26 av ax x_v10 ay stop)) hd db fun ma he=>?_
    refine wf (XT (Aa (Rk 0 5 ((tI 44 r_.to_)::(tI 42 r_.fr)::(tI 40 x38)::(tI 12 x38)::(JK x_v11 au x26 av ax x_v10 ay stop)) he db fun mb hf=>?_)))
    obtain⟨x45,ex45,a0⟩:=Aw a0
    refine wl fun K hK=>?_
    refine wc [.c (.int .i64 x38),.c (.int .i64 r_.fr),.c (.int .i64 r_.to_)] hf db (C2 cx db.has x38 r_.fr r_.to_ ex45) fun nh dp nj gn ec dc=>?_
    replace ct:=ct.mono ec
    obtain rfl:=gn
    refine⟨.one (.c (.bool x45)),rfl,fun gf (hg:Kn 118 (PO l m p bp bu x_v11 bw b3 stop) ((tB 45 x45)::(tI 44 r_.to_)::(tI 42 r_.fr)::(tI 40 x38)::(tI 12 x38)::(JK x_v11 au x26 av ax x_v10 ay stop)) gf)=>hK _ _ ?_⟩
    have d4:Kn 118 (PO l m p bp bu x_v11 bw b3 stop) ((tB 45 x45)::(tI 12 x38)::(JK x_v11 au x26 av ax x_v10 ay stop)) gf:=hg.kp
    refine wf (wC (x45) d4 (fun dt=>?_) (fun dt=>?_))
    ·
     rw [dt,XW] at a0
     refine Aa (Rk 0 2 [tI 47 x38,tS 46 ax x_v10.length ay,tI 11 x_v11,tS 10 au x26.length av,tP 4 0 0,tI 3 stop] d4 dc fun mc hl=>?_)
     refine wl fun K hK=>?_
     refine wS 3 1 [.int .i64 x38] hl dc fun e1 k4 nk (hn:Kn 118 (PO l m p bp bu x_v11 bw b3 stop) [tS 48 e1 1 1,tI 47 x38,tS 46 ax x_v10.length ay,tI 11 x_v11,tS 10 au x26.length av,tP 4 0 0,tI 3 stop] k4) fm=>?_
     have dz:Ag dp ([x38]:List Int) ([.int .i64 x38]:List Value):=⟨_,_,rfl,(Ac:rep dp (x38:Int) _),rfl⟩
     refine hK _ _ ?_
     obtain⟨x49,ex49,a0⟩:=Aw a0
     obtain⟨en,jm⟩:=AU ex49
     refine wl fun K hK=>?_
     refine AE 0 8 1 _ (x49.length) _ ([.int .i64 x38]:List Value) hn fm rfl rfl (by decide) rfl (by rfl) (by kernel_rfl) (by rfl) (by rfl) (Ag.len dz) (fm.rowCell (i:=1) rfl) dz.one (by rw [en]; simp <;> omega) (by rw [en]; exact jm) (by decide) fun cz c1 gl k5 nl g9 (ho:Kn 118 (PO l m p bp bu x_v11 bw b3 stop) [tS 49 cz x49.length c1,tS 48 e1 1 1,tI 47 x38,tS 46 ax x_v10.length ay,tI 11 x_v11,tS 10 au x26.length av,tP 4 0 0,tI 3 stop] k5) ee=>?_
     have gu:Ag dp x49 (cb++([.int .i64 x38]:List Value)):=by rw [en]; exact Ag.append ct dz
     obtain rfl:gl=0:=Nat.le_zero.1 g9
     refine hK _ _ ?_
     refine Rk 4 1 [tS 9 cz x49.length c1,tI 11 x_v11,tS 10 au x26.length av,tP 4 0 0,tI 3 stop] ho ee fun md hp=>?_
     refine wf (Aa (Rk 0 3 [tI 11 (IntKind.i64.wrap (x_v11+1)),tS 9 cz x49.length c1,tS 10 au x26.length av,tP 4 0 0,tI 3 stop] hp ee fun me hq=>?_))
     refine wf ?_
     exact XY cx ⟨Nat.lt_succ_self _,XY x49 ⟨IntKind.i64.wrap (x_v11+1),cz,c1,cb++([.int .i64 x38]:List Value),_,_,rfl,(hq.keep [11,10,9,4,3] (by rfl)).cut 3 (by kernel_rfl),(ee.cutRw 1).cutPl 3 (by kernel_rfl),XU a7 ec,gu,a0⟩⟩
    ·
     rw [dt,XV] at a0
     refine wp_skip (Aa (Rk 0 3 [tI 11 (IntKind.i64.wrap (x_v11+1)),tS 10 au x26.length av,tS 9 ax x_v10.length ay,tP 4 0 0,tI 3 stop] d4 dc fun mf hr=>?_))
     refine wf ?_
     exact XY cx ⟨Nat.lt_succ_self _,XY x_v10 ⟨IntKind.i64.wrap (x_v11+1),ax,ay,cb,_,_,rfl,(hr.keep [11,10,9,4,3] (by rfl)).cut 3 (by kernel_rfl),dc.cutPl 3 (by kernel_rfl),XU a7 ec,ct,a0⟩⟩
   ·
    rw [dy,XV] at a0
    refine wp_exit ?_
    obtain rfl:=XZ a0
    exact XY ax ⟨ay,cb,_,_,rfl,d9.kp,df,a7,ct⟩
 ·
  rintro _ ll ⟨f,g,a1,ez,b1,rfl,hs,ef,bs,bh⟩
  replace be:=be.mono bs
  replace bf:=bf.mono bs
  replace bg:=bg.mono bs
  replace a8:=a8.mono bs
  replace a9:=a9.mono bs
  replace ba:=ba.mono bs
  replace bb:=bb.mono bs
  replace bc:=bc.mono bs
  replace bd:=bd.mono bs
  refine XT (Aa (Rk 0 1 [tS 13 none 0 0,tS 9 f d.length g] hs ef fun mg ht=>?_))
  refine wf (XT (XT (Aa (Rk 0 1 [tI 14 0,tS 13 none 0 0,tS 9 f d.length g] ht ef fun mh hu=>?_))))
  refine wf ?_
  have jx:Ah ⟨w,h,A4⟩ b1 [(l,0),(m,0),(p,0)] [⟨Ez aa r_ am ah aq ai ar,some 28⟩,⟨Ey ab a aj ac ak ad al,some 50⟩,⟨Ew ae t_ an af ao ag ap,some 75⟩] [⟨f,d.length,g,3,1,a1,0⟩,⟨none,0,0,3,1,[],0⟩] ll:=ef.nilRow 3 1
  have gv:Ag b1 ([]:List Int) []:=Ag.nil
  obtain⟨b4,e4,H⟩:=Aw H
  refine Az (fun a' w'=>∃ (b5:Option Addr)(b8:Nat)(cy:List Value)(er:Array Value)(c3:Ae),a' = ⟨er,[]⟩∧Kn 118 [(l,0),(m,0),(p,0)] [tS 13 b5 b4.length b8] er∧Ah ⟨w,h,A4⟩ c3 [(l,0),(m,0),(p,0)] [⟨Ez aa r_ am ah aq ai ar,some 28⟩,⟨Ey ab a aj ac ak ad al,some 50⟩,⟨Ew ae t_ an af ao ag ap,some 75⟩] [⟨f,d.length,g,3,1,a1,0⟩,⟨b5,b4.length,b8,3,1,cy,0⟩] w'∧Ae.le b1 c3∧Ag c3 b4 cy) ?_ ?_
  ·
   refine wp_block ?_
   refine Ar (fun ky a' w'=>∃ (x_v20:List Int)(x_v21:Int)(u:Option Addr)(x:Nat)(bn:List Value)(es:Array Value)(cc:Ae),a' = ⟨es,[]⟩∧Kn 118 [(l,0),(m,0),(p,0)] (Fs x_v21 u x_v20 x f d g) es∧Ah ⟨w,h,A4⟩ cc [(l,0),(m,0),(p,0)] [⟨Ez aa r_ am ah aq ai ar,some 28⟩,⟨Ey ab a aj ac ak ad al,some 50⟩,⟨Ew ae t_ an af ao ag ap,some 75⟩] [⟨f,d.length,g,3,1,a1,0⟩,⟨u,x_v20.length,x,3,1,bn,0⟩] w'∧Ae.le b1 cc∧Ag cc x_v20 bn∧CZ ky d x_v20 x_v21=some b4) n ?_ ?_
   ·
    exact XY ([]:List Int) ⟨0,none,0,[],_,_,rfl,hu.kp,jx,Ae.le_refl _,gv,e4⟩
   ·
    rintro ch _ nm ⟨x_v20,x_v21,u,x,bn,es,cc,rfl,hv,cv,a4,br,az⟩
    clear e4
    obtain _ | ch:=ch
    ·
     rw [CZ] at az; cases az
    rw [CZ] at az
    replace be:=be.mono a4
    replace bf:=bf.mono a4
    replace bg:=bg.mono a4
    replace a8:=a8.mono a4
    replace a9:=a9.mono a4
    replace ba:=ba.mono a4
    replace bb:=bb.mono a4
    replace bc:=bc.mono a4
    replace bd:=bd.mono a4
    replace bh:=bh.mono a4
    refine XT (XT (Aa (Rk 0 4 ((tB 53 (decide (x_v21<((d.length:Nat):Int))))::(Fs x_v21 u x_v20 x f d g)) hv cv fun mi d5=>?_)))
    refine wf (wC (decide (x_v21<((d.length:Nat):Int))) d5 (fun du=>?_) (fun du=>?_))
    ·
     rw [du,XW] at az
     refine wp_skip (XT (wp_block (XT (Aa (Rk 0 1 ((tB 15 false)::(Fs x_v21 u x_v20 x f d g)) d5 cv fun mj hw=>?_)))))
     refine wf (XT (XT (Aa (Rk 0 1 ((tI 16 0)::(tB 15 false)::(Fs x_v21 u x_v20 x f d g)) hw cv fun mk hx=>?_))))
     refine wf ?_
     obtain⟨dh,e5,az⟩:=Aw az
     refine Az (fun a' w'=>∃ (et:Array Value)(bz:Ae),a' = ⟨et,[]⟩∧Kn 118 [(l,0),(m,0),(p,0)] ((tB 15 dh)::(Fs x_v21 u x_v20 x f d g)) et∧Ah ⟨w,h,A4⟩ bz [(l,0),(m,0),(p,0)] [⟨Ez aa r_ am ah aq ai ar,some 28⟩,⟨Ey ab a aj ac ak ad al,some 50⟩,⟨Ew ae t_ an af ao ag ap,some 75⟩] [⟨f,d.length,g,3,1,a1,0⟩,⟨u,x_v20.length,x,3,1,bn,0⟩] w'∧Ae.le cc bz) ?_ ?_
     ·
      refine wp_block ?_
      refine Ar (fun kz a' w'=>∃ (x_v30:Int)(x_v31:Bool)(eu:Array Value)(dq:Ae),a' = ⟨eu,[]⟩∧Kn 118 [(l,0),(m,0),(p,0)] ((tI 16 x_v30)::(tB 15 x_v31)::(Fs x_v21 u x_v20 x f d g)) eu∧Ah ⟨w,h,A4⟩ dq [(l,0),(m,0),(p,0)] [⟨Ez aa r_ am ah aq ai ar,some 28⟩,⟨Ey ab a aj ac ak ad al,some 50⟩,⟨Ew ae t_ an af ao ag ap,some 75⟩] [⟨f,d.length,g,3,1,a1,0⟩,⟨u,x_v20.length,x,3,1,bn,0⟩] w'∧Ae.le cc dq∧CX kz d x_v20 x_v21 x_v30 x_v31=some dh) ch ?_ ?_
      ·
       exact XY 0 ⟨false,_,_,rfl,hx.kp,cv,Ae.le_refl _,e5⟩
      ·
       rintro dg _ nn ⟨x_v30,x_v31,eu,dq,rfl,hy,bi,cu,a3⟩
       clear e5
       obtain _ | dg:=dg
       ·
        rw [CX] at a3; cases a3
       rw [CX] at a3
       replace bh:=bh.mono cu
       replace br:=br.mono cu
       refine XT (XT (Aa (Rk 0 4 ((tB 59 (decide (x_v30<((x_v20.length:Nat):Int))))::(tI 16 x_v30)::(tB 15 x_v31)::(Fs x_v21 u x_v20 x f d g)) hy bi fun ml d6=>?_)))
       refine wf (wC (decide (x_v30<((x_v20.length:Nat):Int))) d6 (fun dv=>?_) (fun dv=>?_))
       ·
        rw [dv,XW] at a3
        refine wp_skip (XT (wp_block (Am (by kernel_rfl) ?_)))
        replace bi:=bi.drew
        refine An [] [(l,0),(m,0),(p,0)] [⟨Ez aa r_ am ah aq ai ar,some 28⟩,⟨Ey ab a aj ac ak ad al,some 50⟩,⟨Ew ae t_ an af ao ag ap,some 75⟩] ?_
        refine Dr [0,1] [1,0] ((tB 63 x_v31)::(tI 16 x_v30)::(Fs x_v21 u x_v20 x f d g)) d6 bi fun gg ff=>?_
        rcases Bool.eq_false_or_eq_true (x_v31) with cp | cp
        ·
         rw [cp,XW] at a3
         have hz:Kn 118 [(l,0),(m,0),(p,0)] ((tB 63 true)::(tI 16 x_v30)::(Fs x_v21 u x_v20 x f d g)) gg:=(ff.setB 63 true (by rfl) cp).kp
         refine Dr [2,3,4,5,6,7,8,9,10,11,12] (dn 12) ((tB 15 true)::(tI 16 x_v30)::(Fs x_v21 u x_v20 x f d g)) hz bi fun mm h0=>?_
         refine A3 (by kernel_rfl) (Aa (Rk 0 3 ((tI 16 (IntKind.i64.wrap (x_v30+1)))::(tB 15 true)::(Fs x_v21 u x_v20 x f d g)) h0 bi fun mn h1=>?_))
         refine wf ?_
         exact XY dg ⟨Nat.lt_succ_self _,XY (IntKind.i64.wrap (x_v30+1)) ⟨true,_,_,rfl,h1.kp,bi,cu,a3⟩⟩
        ·
         rw [cp,XV] at a3
         have h2:Kn 118 [(l,0),(m,0),(p,0)] ((tB 63 false)::(tI 16 x_v30)::(Fs x_v21 u x_v20 x f d g)) gg:=(ff.setB 63 false (by rfl) cp).kp
         refine Dr [2,3] (dn 3) ((tI 65 x_v30)::(tS 64 u x_v20.length x)::(tB 63 false)::(tI 16 x_v30)::(Fs x_v21 u x_v20 x f d g)) h2 bi fun mo fg=>?_
         obtain⟨x66,ex66,a3⟩:=Aw a3
         obtain⟨ft,f2,ko⟩:=Ai ex66
         have jn:=Bw ft f2
         obtain⟨ls,kd,gw⟩:=BZ (sz:=1) rfl br ko
         obtain rfl:=kd
         obtain⟨dk,cn⟩:=BR bi (i:=1) rfl (b0:=0+(x_v30:Int).toNat*1) (Nat.lt_of_lt_of_le (Nat.lt_add_of_pos_right (by decide)) (Bf (sz:=1) rfl br jn))
         have cd:=bi.addPlc (b:=dk) (o:=0+(x_v30:Int).toNat*1) (cs:=[]) (fun j c hj=>by simp at hj) rfl (by kernel_rfl) (by kernel_rfl)
         have c8:∀ (e:Be) k c,([.int .i64 x66]:List SC)[k]? = some c→(bn)[0+(x_v30:Int).toNat*1+k]? = some (c.den e):=fun e k c hk=>gw k _ (Ak hk)
         refine Au 4 (x_v30) [.int .i64 x66] (fun _ _ _ _ _ h=>h) rfl rfl (Aj fg (by kernel_rfl)) rfl (by decide) (by kernel_rfl) (by kernel_rfl) fg bi.plOk (by rfl) (by rfl) (by rfl) cn (by rfl) ft f2 (by kernel_rfl) fun k6 (h3:Kn 118 [(l,0),(m,0),(p,0),(dk,0+(x_v30:Int).toNat*1)] ((tP 66 3 0)::(tI 65 x_v30)::(tS 64 u x_v20.length x)::(tB 63 false)::(tI 16 x_v30)::(Fs x_v21 u x_v20 x f d g)) k6)=>?_
         refine Gp [5,6,7] [7,6,5,4,3,2,1,0] [69,68,67,63,16,14,13,9] ((tI 69 x_v21)::(tS 68 f d.length g)::(tI 67 x66)::(tB 63 false)::(tI 16 x_v30)::(Fs x_v21 u x_v20 x f d g)) (fun _ _ _ _ _ h=>h) h3 (Av.peek cd.plOk cd 1 3 rfl rfl cn [.int .i64 x66] (c8 _)) (by kernel_rfl) (by rfl) (by kernel_rfl) fun mp fh=>?_
         obtain⟨x70,ex70,a3⟩:=Aw a3
         obtain⟨fu,f3,kq⟩:=Ai ex70
         have jo:=Bw fu f3
         obtain⟨lu,ke,gx⟩:=BZ (sz:=1) rfl bh kq
         obtain rfl:=ke
         obtain⟨e2,dr⟩:=BR cd (i:=0) rfl (b0:=0+(x_v21:Int).toNat*1) (Nat.lt_of_lt_of_le (Nat.lt_add_of_pos_right (by decide)) (Bf (sz:=1) rfl bh jo))
         have b9:=cd.addPlc (b:=e2) (o:=0+(x_v21:Int).toNat*1) (cs:=[]) (fun j c hj=>by simp at hj) rfl (by kernel_rfl) (by kernel_rfl)
         have fd:∀ (e:Be) k c,([.int .i64 x70]:List SC)[k]? = some c→(a1)[0+(x_v21:Int).toNat*1+k]? = some (c.den e):=fun e k c hk=>gx k _ (Ak hk)
         refine Au 8 (x_v21) [.int .i64 x70] (fun _ _ _ _ _ h=>h) rfl rfl (Aj fh (by kernel_rfl)) rfl (by decide) (by kernel_rfl) (by kernel_rfl) fh (Av.peek cd.plOk cd 1 3 rfl rfl cn [.int .i64 x66] (c8 _)) (by rfl) (by rfl) (by rfl) dr (by rfl) fu f3 (by kernel_rfl) fun k7 (h4:Kn 118 [(l,0),(m,0),(p,0),(dk,0+(x_v30:Int).toNat*1),(e2,0+(x_v21:Int).toNat*1)] ((tP 70 4 0)::(tI 69 x_v21)::(tS 68 f d.length g)::(tI 67 x66)::(tB 63 false)::(tI 16 x_v30)::(Fs x_v21 u x_v20 x f d g)) k7)=>?_
         refine Gp [9,10,11,12] [12,11,10,9,8,7,6,5,4,3,2,1,0] [15,16,14,13,9] ((tB 15 (x66 == x70))::(tI 16 x_v30)::(Fs x_v21 u x_v20 x f d g)) (fun _ _ _ _ _ h=>h) h4 (Av.peek (Av.peek b9.plOk b9 1 3 rfl rfl cn [.int .i64 x66] (c8 _)) b9 0 4 rfl rfl dr [.int .i64 x70] (fd _)) (by kernel_rfl) (by rfl) (by kernel_rfl) fun mq h5=>?_
         refine A3 (by kernel_rfl) (Aa (Hg 0 3 [16,15,14,13,9] ((tI 16 (IntKind.i64.wrap (x_v30+1)))::(tB 15 (x66 == x70))::(Fs x_v21 u x_v20 x f d g)) h5 (Av.peek (Av.peek b9.plOk b9 1 3 rfl rfl cn [.int .i64 x66] (c8 _)) b9 0 4 rfl rfl dr [.int .i64 x70] (fd _)) (by kernel_rfl) fun mr h6=>?_))
         refine wf ?_
         exact XY dg ⟨Nat.lt_succ_self _,XY (IntKind.i64.wrap (x_v30+1)) ⟨x66 == x70,_,_,rfl,(h6.keep [16,15,14,13,9] (by rfl)).cut 3 (by kernel_rfl),b9.cutPl 3 (by kernel_rfl),cu,a3⟩⟩
       ·
        rw [dv,XV] at a3
        refine wp_exit ?_
        obtain rfl:=XZ a3
        exact XY _ ⟨_,rfl,d6.kp,bi,cu⟩
     ·
      rintro _ np ⟨et,bz,rfl,h7,ce,a5⟩
      replace be:=be.mono a5
      replace bf:=bf.mono a5
      replace bg:=bg.mono a5
      replace a8:=a8.mono a5
      replace a9:=a9.mono a5
      replace ba:=ba.mono a5
      replace bb:=bb.mono a5
      replace bc:=bc.mono a5
      replace bd:=bd.mono a5
      replace bh:=bh.mono a5
      replace br:=br.mono a5
      refine XT (XT (Aa (Rk 0 1 ((tB 74 dh)::(Fs x_v21 u x_v20 x f d g)) h7 ce fun ms d7=>?_)))
      refine wf (wC (dh) d7 (fun dw=>?_) (fun dw=>?_))
      ·
       rw [dw,XW] at az
       refine wp_exit (Aa (Rk 0 3 [tI 14 (IntKind.i64.wrap (x_v21+1)),tS 13 u x_v20.length x,tS 9 f d.length g] d7 ce fun mt h8=>?_))
       refine wf ?_
       exact XY ch ⟨Nat.lt_succ_self _,XY x_v20 ⟨IntKind.i64.wrap (x_v21+1),u,x,bn,_,_,rfl,h8.kp,ce,XU a4 a5,br,az⟩⟩
      ·
       rw [dw,XV] at az
       refine wp_skip (XT (Aa (Rk 0 3 [tI 77 x_v21,tS 76 f d.length g,tS 75 u x_v20.length x,tI 14 x_v21,tS 9 f d.length g] d7 ce fun mu h9=>?_)))
       obtain⟨x78,ex78,az⟩:=Aw az
       obtain⟨fv,f4,kr⟩:=Ai ex78
       have jp:=Bw fv f4
       obtain⟨lv,kf,gy⟩:=BZ (sz:=1) rfl bh kr
       obtain rfl:=kf
       obtain⟨y,c6⟩:=BR ce (i:=0) rfl (b0:=0+(x_v21:Int).toNat*1) (Nat.lt_of_lt_of_le (Nat.lt_add_of_pos_right (by decide)) (Bf (sz:=1) rfl bh jp))
       have eg:=ce.addPlc (b:=y) (o:=0+(x_v21:Int).toNat*1) (cs:=[]) (fun j c hj=>by simp at hj) rfl (by kernel_rfl) (by kernel_rfl)
       have d1:∀ (e:Be) k c,([.int .i64 x78]:List SC)[k]? = some c→(a1)[0+(x_v21:Int).toNat*1+k]? = some (c.den e):=fun e k c hk=>gy k _ (Ak hk)
       refine Bl 3 (x_v21) rfl rfl (rfl) rfl (by decide) h9 (by rfl) (by rfl) (by rfl) c6 (by rfl) fv f4 (by kernel_rfl) fun k8 (ia:Kn 118 (HB l m p y x_v21) [tP 78 3 0,tI 77 x_v21,tS 76 f d.length g,tS 75 u x_v20.length x,tI 14 x_v21,tS 9 f d.length g] k8)=>?_
       refine Hg 4 1 [79,75,14,9] [tI 79 x78,tS 75 u x_v20.length x,tI 14 x_v21,tS 9 f d.length g] ia (Av.peek eg.plOk eg 0 3 rfl rfl c6 [.int .i64 x78] (d1 _)) (by kernel_rfl) fun mv ib=>?_
       refine wl fun K hK=>?_
       refine wS 3 1 [.int .i64 x78] ib eg fun b6 la nq (ic:Kn 118 (HB l m p y x_v21) [tS 80 b6 1 1,tI 79 x78,tS 75 u x_v20.length x,tI 14 x_v21,tS 9 f d.length g] la) fn=>?_
       have cr:Ag bz ([x78]:List Int) ([.int .i64 x78]:List Value):=⟨_,_,rfl,(Ac:rep bz (x78:Int) _),rfl⟩
       refine hK _ _ ?_
       obtain⟨x81,ex81,az⟩:=Aw az
       obtain⟨eo,jq⟩:=AU ex81
       refine wl fun K hK=>?_
       refine AE 1 8 1 _ (x81.length) _ ([.int .i64 x78]:List Value) ic fn rfl rfl (by decide) rfl (by rfl) (by kernel_rfl) (by rfl) (by rfl) (Ag.len cr) (fn.rowCell (i:=2) rfl) cr.one (by rw [eo]; simp <;> omega) (by rw [eo]; exact jq) (by decide) fun c0 c2 gm lb ns ha (ie:Kn 118 (HB l m p y x_v21) [tS 81 c0 x81.length c2,tS 80 b6 1 1,tI 79 x78,tS 75 u x_v20.length x,tI 14 x_v21,tS 9 f d.length g] lb) cw=>?_
       have gz:Ag bz x81 (bn++([.int .i64 x78]:List Value)):=by rw [eo]; exact Ag.append br cr
       obtain rfl:gm=0:=Nat.le_zero.1 ha
       refine hK _ _ ?_
       refine Hg 7 1 [13,14,9] [tS 13 c0 x81.length c2,tI 14 x_v21,tS 9 f d.length g] ie (Av.peek cw.plOk cw 0 3 rfl rfl c6 [.int .i64 x78] (d1 _)) (by kernel_rfl) fun mw ih=>?_
       refine wf (XT (Aa (Hg 0 4 [17,13,14,9] [tI 17 (IntKind.i64.wrap (((x81.length:Nat):Int)-1)),tS 13 c0 x81.length c2,tI 14 x_v21,tS 9 f d.length g] ih (Av.peek cw.plOk cw 0 3 rfl rfl c6 [.int .i64 x78] (d1 _)) (by kernel_rfl) fun mx ii=>?_)))
       refine wf ?_
       obtain⟨ci,e6,az⟩:=Aw az
       refine Az (fun a' w'=>∃ (cj:Option Addr)(cl:Nat)(di:List Value)(ev:Array Value)(c4:Ae),a' = ⟨ev,[]⟩∧Kn 118 (HB l m p y x_v21) [tS 13 cj ci.length cl,tI 14 x_v21,tS 9 f d.length g] ev∧Ah ⟨w,h,A4⟩ c4 (HB l m p y x_v21) [⟨Ez aa r_ am ah aq ai ar,some 28⟩,⟨Ey ab a aj ac ak ad al,some 50⟩,⟨Ew ae t_ an af ao ag ap,some 75⟩,⟨[],none⟩] [⟨f,d.length,g,3,1,a1,0⟩,⟨cj,ci.length,cl,3,1,di,0⟩,⟨b6,1,1,3,1,([.int .i64 x78]:List Value),0⟩] w'∧Ae.le bz c4∧Ag c4 ci di) ?_ ?_
       ·
        refine wp_block ?_
        refine Ar (fun k0 a' w'=>∃ (x_v40:List Int)(x_v41:Int)(q:Option Addr)(s:Nat)(z:List Value)(ew:Array Value)(cm:Ae),a' = ⟨ew,[]⟩∧Kn 118 (HB l m p y x_v21) (Jc x_v41 q x_v40 s x_v21 f d g) ew∧Ah ⟨w,h,A4⟩ cm (HB l m p y x_v21) [⟨Ez aa r_ am ah aq ai ar,some 28⟩,⟨Ey ab a aj ac ak ad al,some 50⟩,⟨Ew ae t_ an af ao ag ap,some 75⟩,⟨[],none⟩] [⟨f,d.length,g,3,1,a1,0⟩,⟨q,x_v40.length,s,3,1,z,0⟩,⟨b6,1,1,3,1,([.int .i64 x78]:List Value),0⟩] w'∧Ae.le bz cm∧Ag cm x_v40 z∧CY k0  x_v40 x_v41=some ci) ch ?_ ?_
        ·
         exact XY x81 ⟨IntKind.i64.wrap (((x81.length:Nat):Int)-1),c0,c2,bn++([.int .i64 x78]:List Value),_,_,rfl,ii.kp,cw,Ae.le_refl _,gz,e6⟩
        ·
         rintro ep _ nt ⟨x_v40,x_v41,q,s,z,ew,cm,rfl,ij,bt,a6,a2,aw⟩
         clear e6
         obtain _ | ep:=ep
         ·
          rw [CY] at aw; cases aw
         rw [CY] at aw
         replace be:=be.mono a6
         replace bf:=bf.mono a6
         replace bg:=bg.mono a6
         replace a8:=a8.mono a6
         replace a9:=a9.mono a6
         replace ba:=ba.mono a6
         replace bb:=bb.mono a6
         replace bc:=bc.mono a6
         replace bd:=bd.mono a6
         replace bh:=bh.mono a6
         replace cr:=cr.mono a6
         refine XT (XT ?_)
         obtain⟨gd,bx,aw⟩:=Aw aw
         refine Az (fun a' w'=>∃ (ex:Array Value)(bq:Ae),a' = ⟨ex,[]⟩∧Kn 118 (HB l m p y x_v21) [tI 17 x_v41,tS 13 q x_v40.length s,tI 14 x_v21,tS 9 f d.length g,tB 98 gd] ex∧Ah ⟨w,h,A4⟩ bq (HB l m p y x_v21) [⟨Ez aa r_ am ah aq ai ar,some 28⟩,⟨Ey ab a aj ac ak ad al,some 50⟩,⟨Ew ae t_ an af ao ag ap,some 75⟩,⟨[],none⟩] [⟨f,d.length,g,3,1,a1,0⟩,⟨q,x_v40.length,s,3,1,z,0⟩,⟨b6,1,1,3,1,([.int .i64 x78]:List Value),0⟩] w'∧Ae.le cm bq) ?_ ?_
         ·
          refine Am (by kernel_rfl) ?_
          replace bt:=bt.drew
          refine An [] (HB l m p y x_v21) [⟨Ez aa r_ am ah aq ai ar,some 28⟩,⟨Ey ab a aj ac ak ad al,some 50⟩,⟨Ew ae t_ an af ao ag ap,some 75⟩,⟨[],none⟩] ?_
          refine Dr [0,1,2] [2,1,0] ((tB 87 (decide (x_v41>0)))::(Jc x_v41 q x_v40 s x_v21 f d g)) ij bt fun gh fi=>?_
          rcases Bool.eq_false_or_eq_true (decide (x_v41>0)) with cq | cq
          ·
           rw [cq,XW] at bx
           have ik:Kn 118 (HB l m p y x_v21) ((tB 87 true)::(Jc x_v41 q x_v40 s x_v21 f d g)) gh:=(fi.setB 87 true (by rfl) cq).kp
           refine Dr [3,4] (dn 4) ((tI 89 x_v41)::(tS 88 q x_v40.length s)::(tB 87 true)::(Jc x_v41 q x_v40 s x_v21 f d g)) ik bt fun my fj=>?_
           obtain⟨x90,ex90,bx⟩:=Aw bx
           obtain⟨fw,f5,ks⟩:=Ai ex90
           have jr:=Bw fw f5
           obtain⟨lw,kg,g1⟩:=BZ (sz:=1) rfl a2 ks
           obtain rfl:=kg
           obtain⟨dl,c7⟩:=BR bt (i:=1) rfl (b0:=0+(x_v41:Int).toNat*1) (Nat.lt_of_lt_of_le (Nat.lt_add_of_pos_right (by decide)) (Bf (sz:=1) rfl a2 jr))
           have cf:=bt.addPlc (b:=dl) (o:=0+(x_v41:Int).toNat*1) (cs:=[]) (fun j c hj=>by simp at hj) rfl (by kernel_rfl) (by kernel_rfl)
           have d2:∀ (e:Be) k c,([.int .i64 x90]:List SC)[k]? = some c→(z)[0+(x_v41:Int).toNat*1+k]? = some (c.den e):=fun e k c hk=>g1 k _ (Ak hk)
           refine Au 5 (x_v41) [.int .i64 x90] (fun _ _ _ _ _ h=>h) rfl rfl (Aj fj (by kernel_rfl)) rfl (by decide) (by kernel_rfl) (by kernel_rfl) fj bt.plOk (by rfl) (by rfl) (by rfl) c7 (by rfl) fw f5 (by kernel_rfl) fun ld (il:Kn 118 [(l,0),(m,0),(p,0),(y,0+(x_v21:Int).toNat*1),(dl,0+(x_v41:Int).toNat*1)] ((tP 90 4 0)::(tI 89 x_v41)::(tS 88 q x_v40.length s)::(tB 87 true)::(Jc x_v41 q x_v40 s x_v21 f d g)) ld)=>?_
           refine Gp [6,7,8,9] [9,8,7,6,5,4,3,2,1,0] [94,92,91,87,17,13,14,9] ((tI 94 (IntKind.i64.wrap (x_v41-1)))::(tS 92 q x_v40.length s)::(tI 91 x90)::(tB 87 true)::(Jc x_v41 q x_v40 s x_v21 f d g)) (fun _ _ _ _ _ h=>h) il (Av.peek cf.plOk cf 1 4 rfl rfl c7 [.int .i64 x90] (d2 _)) (by kernel_rfl) (by rfl) (by kernel_rfl) fun mz fk=>?_
           obtain⟨x95,ex95,bx⟩:=Aw bx
           obtain⟨fx,f6,kt⟩:=Ai ex95
           have js:=Bw fx f6
           obtain⟨lx,kh,g2⟩:=BZ (sz:=1) rfl a2 kt
           obtain rfl:=kh
           obtain⟨e3,fa⟩:=BR cf (i:=1) rfl (b0:=0+(IntKind.i64.wrap (x_v41-1):Int).toNat*1) (Nat.lt_of_lt_of_le (Nat.lt_add_of_pos_right (by decide)) (Bf (sz:=1) rfl a2 js))
           have dd:=cf.addPlc (b:=e3) (o:=0+(IntKind.i64.wrap (x_v41-1):Int).toNat*1) (cs:=[]) (fun j c hj=>by simp at hj) rfl (by kernel_rfl) (by kernel_rfl)
           have g3:∀ (e:Be) k c,([.int .i64 x95]:List SC)[k]? = some c→(z)[0+(IntKind.i64.wrap (x_v41-1):Int).toNat*1+k]? = some (c.den e):=fun e k c hk=>g2 k _ (Ak hk)
           refine Au 10 (IntKind.i64.wrap (x_v41-1)) [.int .i64 x95] (fun _ _ _ _ _ h=>h) rfl rfl (Aj fk (by kernel_rfl)) rfl (by decide) (by kernel_rfl) (by kernel_rfl) fk (Av.peek cf.plOk cf 1 4 rfl rfl c7 [.int .i64 x90] (d2 _)) (by rfl) (by rfl) (by rfl) fa (by rfl) fx f6 (by kernel_rfl) fun lf (io:Kn 118 [(l,0),(m,0),(p,0),(y,0+(x_v21:Int).toNat*1),(dl,0+(x_v41:Int).toNat*1),(e3,0+(IntKind.i64.wrap (x_v41-1):Int).toNat*1)] ((tP 95 5 0)::(tI 94 (IntKind.i64.wrap (x_v41-1)))::(tS 92 q x_v40.length s)::(tI 91 x90)::(tB 87 true)::(Jc x_v41 q x_v40 s x_v21 f d g)) lf)=>?_
           refine Gp [11,12,13] [13,12,11,10,9,8,7,6,5,4,3,2,1,0] [98,17,13,14,9] ((tB 98 (decide (x90<x95)))::(Jc x_v41 q x_v40 s x_v21 f d g)) (fun _ _ _ _ _ h=>h) io (Av.peek (Av.peek dd.plOk dd 1 4 rfl rfl c7 [.int .i64 x90] (d2 _)) dd 1 5 rfl rfl fa [.int .i64 x95] (g3 _)) (by kernel_rfl) (by rfl) (by kernel_rfl) fun m0 ip=>?_
           refine A3 (by kernel_rfl) ?_
           obtain rfl:=XZ bx
           exact XY _ ⟨_,rfl,(ip.keep [17,13,14,9,98] (by rfl)).cut 4 (by kernel_rfl),dd.cutPl 4 (by kernel_rfl),Ae.le_refl _⟩
          ·
           rw [cq,XV] at bx
           have iq:Kn 118 (HB l m p y x_v21) ((tB 87 false)::(Jc x_v41 q x_v40 s x_v21 f d g)) gh:=(fi.setB 87 false (by rfl) cq).kp
           refine Dr [3,4,5,6,7,8,9,10,11,12,13] (dn 13) ((tB 98 false)::(Jc x_v41 q x_v40 s x_v21 f d g)) iq bt fun m1 ir=>?_
           refine A3 (by kernel_rfl) ?_
           obtain rfl:=XZ bx
           exact XY _ ⟨_,rfl,ir.kp,bt,Ae.le_refl _⟩
         ·
          rintro _ nv ⟨ex,bq,rfl,d8,ca,ed⟩
          replace a2:=a2.mono ed
          refine wC (gd) d8 (fun dx=>?_) (fun dx=>?_)
          ·
           rw [dx,XW] at aw
           refine wp_skip (XT (wp_block (Am (by kernel_rfl) ?_)))
           replace ca:=ca.drew
           refine An [] (HB l m p y x_v21) [⟨Ez aa r_ am ah aq ai ar,some 28⟩,⟨Ey ab a aj ac ak ad al,some 50⟩,⟨Ew ae t_ an af ao ag ap,some 75⟩,⟨[],none⟩] ?_
           refine Dr [0,1,2,3,4,5,6,7] (dn 7) ((tI 108 (IntKind.i64.wrap (x_v41-1)))::(tS 106 q x_v40.length s)::(Ob x_v41 q x_v40 s x_v21 f d g)) d8 ca fun m2 iu=>?_
           obtain⟨x109,ex109,aw⟩:=Aw aw
           obtain⟨fy,f7,ku⟩:=Ai ex109
           have jt:=Bw fy f7
           obtain⟨ly,ki,g4⟩:=BZ (sz:=1) rfl a2 ku
           obtain rfl:=ki
           obtain⟨bj,co⟩:=BR ca (i:=1) rfl (b0:=0+(IntKind.i64.wrap (x_v41-1):Int).toNat*1) (Nat.lt_of_lt_of_le (Nat.lt_add_of_pos_right (by decide)) (Bf (sz:=1) rfl a2 jt))
           have cg:=ca.addPlc (b:=bj) (o:=0+(IntKind.i64.wrap (x_v41-1):Int).toNat*1) (cs:=[]) (fun j c hj=>by simp at hj) rfl (by kernel_rfl) (by kernel_rfl)
           have c9:∀ (e:Be) k c,([.int .i64 x109]:List SC)[k]? = some c→(z)[0+(IntKind.i64.wrap (x_v41-1):Int).toNat*1+k]? = some (c.den e):=fun e k c hk=>g4 k _ (Ak hk)
           refine Au 8 (IntKind.i64.wrap (x_v41-1)) [.int .i64 x109] (fun _ _ _ _ _ h=>h) rfl rfl (rfl) rfl (by decide) (by kernel_rfl) (by kernel_rfl) iu ca.plOk (by rfl) (by rfl) (by rfl) co (by rfl) fy f7 (by kernel_rfl) fun lh (iv:Kn 118 [(l,0),(m,0),(p,0),(y,0+(x_v21:Int).toNat*1),(bj,0+(IntKind.i64.wrap (x_v41-1):Int).toNat*1)] ((tP 109 4 0)::(tI 108 (IntKind.i64.wrap (x_v41-1)))::(tS 106 q x_v40.length s)::(Ob x_v41 q x_v40 s x_v21 f d g)) lh)=>?_
           refine Gp [9,10,11] [11,10,9,8,7,6,5,4,3,2,1,0] [112,111,110,105,103,102,101,17,13,14,9] ((tI 112 x_v41)::(tS 111 q x_v40.length s)::(tI 110 x109)::(Ob x_v41 q x_v40 s x_v21 f d g)) (fun _ _ _ _ _ h=>h) iv (Av.peek cg.plOk cg 1 4 rfl rfl co [.int .i64 x109] (c9 _)) (by kernel_rfl) (by rfl) (by kernel_rfl) fun m3 iw=>?_
           obtain⟨x113,ex113,aw⟩:=Aw aw
           obtain⟨fz,f8,kv⟩:=Ai ex113
           have ju:=Bw fz f8
           obtain⟨lz,kj,g5⟩:=BZ (sz:=1) rfl a2 kv
           obtain rfl:=kj
           obtain⟨bk,ds⟩:=BR cg (i:=1) rfl (b0:=0+(x_v41:Int).toNat*1) (Nat.lt_of_lt_of_le (Nat.lt_add_of_pos_right (by decide)) (Bf (sz:=1) rfl a2 ju))
           have b2:=cg.addPlc (b:=bk) (o:=0+(x_v41:Int).toNat*1) (cs:=[]) (fun j c hj=>by simp at hj) rfl (by kernel_rfl) (by kernel_rfl)
           have fe:∀ (e:Be) k c,([.int .i64 x113]:List SC)[k]? = some c→(z)[0+(x_v41:Int).toNat*1+k]? = some (c.den e):=fun e k c hk=>g5 k _ (Ak hk)
           refine Au 12 (x_v41) [.int .i64 x113] (fun _ _ _ _ _ h=>h) rfl rfl (rfl) rfl (by decide) (by kernel_rfl) (by kernel_rfl) iw (Av.peek cg.plOk cg 1 4 rfl rfl co [.int .i64 x109] (c9 _)) (by rfl) (by rfl) (by rfl) ds (by rfl) fz f8 (by kernel_rfl) fun li (iy:Kn 118 [(l,0),(m,0),(p,0),(y,0+(x_v21:Int).toNat*1),(bj,0+(IntKind.i64.wrap (x_v41-1):Int).toNat*1),(bk,0+(x_v41:Int).toNat*1)] ((tP 113 5 0)::(tI 112 x_v41)::(tS 111 q x_v40.length s)::(tI 110 x109)::(Ob x_v41 q x_v40 s x_v21 f d g)) li)=>?_
           refine Gp [13] [13,12,11,10,9,8,7,6,5,4,3,2,1,0] [114,110,105,103,102,101,17,13,14,9] ((tI 114 x113)::(tI 110 x109)::(Ob x_v41 q x_v40 s x_v21 f d g)) (fun _ _ _ _ _ h=>h) iy (Av.peek (Av.peek b2.plOk b2 1 4 rfl rfl co [.int .i64 x109] (c9 _)) b2 1 5 rfl rfl ds [.int .i64 x113] (fe _)) (by kernel_rfl) (by rfl) (by kernel_rfl) fun m4 iz=>?_
           obtain⟨x115,ex115,aw⟩:=Aw aw
           obtain⟨f0,f9,kw⟩:=Ai ex115
           have ea:=Bw f0 f9
           obtain⟨l0,kk,g6⟩:=BZ (sz:=1) rfl a2 kw
           obtain rfl:=kk
           obtain⟨bo,fb⟩:=BR b2 (i:=1) rfl (b0:=0+(x_v41:Int).toNat*1) (Nat.lt_of_lt_of_le (Nat.lt_add_of_pos_right (by decide)) (Bf (sz:=1) rfl a2 ea))
           have j0:=b2.addPlc (b:=bo) (o:=0+(x_v41:Int).toNat*1) (cs:=[]) (fun j c hj=>by simp at hj) rfl (by kernel_rfl) (by kernel_rfl)
           have l2:∀ (e:Be) k c,([.int .i64 x115]:List SC)[k]? = some c→(z)[0+(x_v41:Int).toNat*1+k]? = some (c.den e):=fun e k c hk=>g6 k _ (Ak hk)
           refine Au 14 (x_v41) [.int .i64 x115] (fun _ _ _ _ _ h=>h) rfl rfl (rfl) rfl (by decide) (by kernel_rfl) (by kernel_rfl) iz (Av.peek (Av.peek b2.plOk b2 1 4 rfl rfl co [.int .i64 x109] (c9 _)) b2 1 5 rfl rfl ds [.int .i64 x113] (fe _)) (by rfl) (by rfl) (by rfl) fb (by rfl) f0 f9 (by kernel_rfl) fun gi (i0:Kn 118 [(l,0),(m,0),(p,0),(y,0+(x_v21:Int).toNat*1),(bj,0+(IntKind.i64.wrap (x_v41-1):Int).toNat*1),(bk,0+(x_v41:Int).toNat*1),(bo,0+(x_v41:Int).toNat*1)] ((tP 115 6 0)::(tI 114 x113)::(tI 110 x109)::(Ob x_v41 q x_v40 s x_v21 f d g)) gi)=>?_
           obtain⟨bm,gj,aw⟩:=Aw aw
           obtain⟨l5,l7,gb⟩:=DJ gj
           refine Cv 15 rfl (by kernel_rfl) (by decide) (rfl) (by kernel_rfl) fun K hK=>?_
           refine Dz 1 6 0 (0+(x_v41:Int).toNat*1) (.c (.int .i64 x109)) i0 j0 rfl rfl (by rfl) (by rfl) rfl rfl fb rfl (by kernel_rfl) (Bf (sz:=1) rfl a2 ea) fun lm i1 j1=>?_
           have da:Ag bq bm (z.take (0+(x_v41:Int).toNat*1+0)++([.int .i64 x109]:List Value)++z.drop (0+(x_v41:Int).toNat*1+0+1)):=by rw [gb]; exact FE (sz:=1) rfl a2 ea (Ac:rep bq (x109:Int) _)
           have fq:x_v40.length=bm.length:=by rw [gb]; simp
           have i2:Kn 118 [(l,0),(m,0),(p,0),(y,0+(x_v21:Int).toNat*1),(bj,0+(IntKind.i64.wrap (x_v41-1):Int).toNat*1),(bk,0+(x_v41:Int).toNat*1),(bo,0+(x_v41:Int).toNat*1)] [(115,.one (.c (.ptr 6 0))),(114,.one (.c (.int .i64 x113))),(110,.one (.c (.int .i64 x109))),(105,.one (.c (.int .i64 (IntKind.i64.wrap (x_v41-1))))),(103,.one (.c (.slice q bm.length s))),(102,.one (.c (.int .i64 x_v41))),(101,.one (.c (.slice q bm.length s))),(17,.one (.c (.int .i64 x_v41))),(13,.one (.c (.slice q bm.length s))),(14,.one (.c (.int .i64 x_v21))),(9,.one (.c (.slice f d.length g)))] gi:=by rw [← fq]; exact i1
           have ei:Ah ⟨w,h,A4⟩ bq [(l,0),(m,0),(p,0),(y,0+(x_v21:Int).toNat*1),(bj,0+(IntKind.i64.wrap (x_v41-1):Int).toNat*1),(bk,0+(x_v41:Int).toNat*1),(bo,0+(x_v41:Int).toNat*1)] [⟨[.slice aa r_.legs.length am,.int .i64 r_.turn.lo,.int .i64 r_.turn.hi,.slice ah r_.buses.length aq,.slice ai r_.spares.length ar,.int .i64 r_.unit,.int .i64 r_.gap,.int .i64 r_.fr,.int .i64 r_.to_],some 28⟩,⟨[.slice ab a.holds.length aj,.slice ac a.turns.length ak,.slice ad a.spares.length al],some 50⟩,⟨[.slice ae t_.tm.length an,.slice af t_.turns.length ao,.slice ag t_.legs.length ap],some 75⟩,⟨[],none⟩,⟨[],none⟩,⟨[],none⟩,⟨[],none⟩] [⟨f,d.length,g,3,1,a1,0⟩,⟨q,bm.length,s,3,1,z.take (0+(x_v41:Int).toNat*1+0)++([.int .i64 x109]:List Value)++z.drop (0+(x_v41:Int).toNat*1+0+1),0⟩,⟨b6,1,1,3,1,([.int .i64 x78]:List Value),0⟩] lm:=by rw [← fq]; exact j1
           refine hK _ _ ?_
           refine An [] [(l,0),(m,0),(p,0),(y,0+(x_v21:Int).toNat*1),(bj,0+(IntKind.i64.wrap (x_v41-1):Int).toNat*1),(bk,0+(x_v41:Int).toNat*1),(bo,0+(x_v41:Int).toNat*1)] [⟨Ez aa r_ am ah aq ai ar,some 28⟩,⟨Ey ab a aj ac ak ad al,some 50⟩,⟨Ew ae t_ an af ao ag ap,some 75⟩,⟨[],none⟩,⟨[],none⟩,⟨[],none⟩,⟨[],none⟩] ?_
           obtain⟨x116,ex116,aw⟩:=Aw aw
           obtain⟨f1,ga,kx⟩:=Ai ex116
           have eb:=Bw f1 ga
           obtain⟨l1,kl,g7⟩:=BZ (sz:=1) rfl da kx
           obtain rfl:=kl
           obtain⟨ck,fc⟩:=BR ei (i:=1) rfl (b0:=0+(IntKind.i64.wrap (x_v41-1):Int).toNat*1) (Nat.lt_of_lt_of_le (Nat.lt_add_of_pos_right (by decide)) (Bf (sz:=1) rfl da eb))
           have j2:=ei.addPlc (b:=ck) (o:=0+(IntKind.i64.wrap (x_v41-1):Int).toNat*1) (cs:=[]) (fun j c hj=>by simp at hj) rfl (by kernel_rfl) (by kernel_rfl)
           have l3:∀ (e:Be) k c,([.int .i64 x116]:List SC)[k]? = some c→((z.take (0+(x_v41:Int).toNat*1+0)++([.int .i64 x109]:List Value)++z.drop (0+(x_v41:Int).toNat*1+0+1)))[0+(IntKind.i64.wrap (x_v41-1):Int).toNat*1+k]? = some (c.den e):=fun e k c hk=>g7 k _ (Ak hk)
           refine Au 16 (IntKind.i64.wrap (x_v41-1)) [.int .i64 x116] (fun _ _ _ _ _ h=>h) rfl rfl (rfl) rfl (by decide) (by kernel_rfl) (by kernel_rfl) i2 ei.plOk (by rfl) (by rfl) (by rfl) fc (by rfl) f1 ga (by kernel_rfl) fun ey (i4:Kn 118 [(l,0),(m,0),(p,0),(y,0+(x_v21:Int).toNat*1),(bj,0+(IntKind.i64.wrap (x_v41-1):Int).toNat*1),(bk,0+(x_v41:Int).toNat*1),(bo,0+(x_v41:Int).toNat*1),(ck,0+(IntKind.i64.wrap (x_v41-1):Int).toNat*1)] [tP 116 7 0,tP 115 6 0,tI 114 x113,tI 110 x109,tI 105 (IntKind.i64.wrap (x_v41-1)),tS 103 q bm.length s,tI 102 x_v41,tS 101 q bm.length s,tI 17 x_v41,tS 13 q bm.length s,tI 14 x_v21,tS 9 f d.length g] ey)=>?_
           obtain⟨bv,gk,aw⟩:=Aw aw
           obtain⟨l6,l8,gc⟩:=DJ gk
           refine Cv 17 rfl (by kernel_rfl) (by decide) (rfl) (by kernel_rfl) fun K hK=>?_
           refine Dz 1 7 0 (0+(IntKind.i64.wrap (x_v41-1):Int).toNat*1) (.c (.int .i64 x113)) i4 j2 rfl rfl (by rfl) (by rfl) rfl rfl fc rfl (by kernel_rfl) (Bf (sz:=1) rfl da eb) fun ln i5 j3=>?_
           have g8:Ag bq bv ((z.take (0+(x_v41:Int).toNat*1+0)++([.int .i64 x109]:List Value)++z.drop (0+(x_v41:Int).toNat*1+0+1)).take (0+(IntKind.i64.wrap (x_v41-1):Int).toNat*1+0)++([.int .i64 x113]:List Value)++(z.take (0+(x_v41:Int).toNat*1+0)++([.int .i64 x109]:List Value)++z.drop (0+(x_v41:Int).toNat*1+0+1)).drop (0+(IntKind.i64.wrap (x_v41-1):Int).toNat*1+0+1)):=by rw [gc]; exact FE (sz:=1) rfl da eb (Ac:rep bq (x113:Int) _)
           have fs:bm.length=bv.length:=by rw [gc]; simp
           have i7:Kn 118 [(l,0),(m,0),(p,0),(y,0+(x_v21:Int).toNat*1),(bj,0+(IntKind.i64.wrap (x_v41-1):Int).toNat*1),(bk,0+(x_v41:Int).toNat*1),(bo,0+(x_v41:Int).toNat*1),(ck,0+(IntKind.i64.wrap (x_v41-1):Int).toNat*1)] [(116,.one (.c (.ptr 7 0))),(115,.one (.c (.ptr 6 0))),(114,.one (.c (.int .i64 x113))),(110,.one (.c (.int .i64 x109))),(105,.one (.c (.int .i64 (IntKind.i64.wrap (x_v41-1))))),(103,.one (.c (.slice q bv.length s))),(102,.one (.c (.int .i64 x_v41))),(101,.one (.c (.slice q bv.length s))),(17,.one (.c (.int .i64 x_v41))),(13,.one (.c (.slice q bv.length s))),(14,.one (.c (.int .i64 x_v21))),(9,.one (.c (.slice f d.length g)))] ey:=by rw [← fs]; exact i5
           have fo:Ah ⟨w,h,A4⟩ bq [(l,0),(m,0),(p,0),(y,0+(x_v21:Int).toNat*1),(bj,0+(IntKind.i64.wrap (x_v41-1):Int).toNat*1),(bk,0+(x_v41:Int).toNat*1),(bo,0+(x_v41:Int).toNat*1),(ck,0+(IntKind.i64.wrap (x_v41-1):Int).toNat*1)] [⟨[.slice aa r_.legs.length am,.int .i64 r_.turn.lo,.int .i64 r_.turn.hi,.slice ah r_.buses.length aq,.slice ai r_.spares.length ar,.int .i64 r_.unit,.int .i64 r_.gap,.int .i64 r_.fr,.int .i64 r_.to_],some 28⟩,⟨[.slice ab a.holds.length aj,.slice ac a.turns.length ak,.slice ad a.spares.length al],some 50⟩,⟨[.slice ae t_.tm.length an,.slice af t_.turns.length ao,.slice ag t_.legs.length ap],some 75⟩,⟨[],none⟩,⟨[],none⟩,⟨[],none⟩,⟨[],none⟩,⟨[],none⟩] [⟨f,d.length,g,3,1,a1,0⟩,⟨q,bv.length,s,3,1,(z.take (0+(x_v41:Int).toNat*1+0)++([.int .i64 x109]:List Value)++z.drop (0+(x_v41:Int).toNat*1+0+1)).take (0+(IntKind.i64.wrap (x_v41-1):Int).toNat*1+0)++([.int .i64 x113]:List Value)++(z.take (0+(x_v41:Int).toNat*1+0)++([.int .i64 x109]:List Value)++z.drop (0+(x_v41:Int).toNat*1+0+1)).drop (0+(IntKind.i64.wrap (x_v41-1):Int).toNat*1+0+1),0⟩,⟨b6,1,1,3,1,([.int .i64 x78]:List Value),0⟩] ln:=by rw [← fs]; exact j3
           refine hK _ _ ?_
           have i8:Kn 118 [(l,0),(m,0),(p,0),(y,0+(x_v21:Int).toNat*1),(bj,0+(IntKind.i64.wrap (x_v41-1):Int).toNat*1),(bk,0+(x_v41:Int).toNat*1),(bo,0+(x_v41:Int).toNat*1),(ck,0+(IntKind.i64.wrap (x_v41-1):Int).toNat*1)] [tI 17 x_v41,tS 13 q bv.length s,tI 14 x_v21,tS 9 f d.length g] ey:=i7.kp
           refine EI (by kernel_rfl) (Aa (Rk 0 3 [tI 17 (IntKind.i64.wrap (x_v41-1)),tS 13 q bv.length s,tI 14 x_v21,tS 9 f d.length g] i8 fo fun m7 i9=>?_))
           refine wf ?_
           exact XY ep ⟨Nat.lt_succ_self _,XY bv ⟨IntKind.i64.wrap (x_v41-1),q,s,(z.take (0+(x_v41:Int).toNat*1+0)++([.int .i64 x109]:List Value)++z.drop (0+(x_v41:Int).toNat*1+0+1)).take (0+(IntKind.i64.wrap (x_v41-1):Int).toNat*1+0)++([.int .i64 x113]:List Value)++(z.take (0+(x_v41:Int).toNat*1+0)++([.int .i64 x109]:List Value)++z.drop (0+(x_v41:Int).toNat*1+0+1)).drop (0+(IntKind.i64.wrap (x_v41-1):Int).toNat*1+0+1),_,_,rfl,(i9.keep [17,13,14,9] (by rfl)).cut 4 (by kernel_rfl),fo.cutPl 4 (by kernel_rfl),XU a6 ed,g8,aw⟩⟩
          ·
           rw [dx,XV] at aw
           refine wp_exit ?_
           obtain rfl:=XZ aw
           exact XY q ⟨s,z,_,_,rfl,d8.kp,ca,XU a6 ed,a2⟩
       ·
        rintro _ nx ⟨cj,cl,di,ev,c4,rfl,ja,fp,jv,g0⟩
        refine Aa (Rk 0 3 [tI 14 (IntKind.i64.wrap (x_v21+1)),tS 13 cj ci.length cl,tS 9 f d.length g] ja fp fun m8 jb=>?_)
        refine wf ?_
        exact XY ch ⟨Nat.lt_succ_self _,XY ci ⟨IntKind.i64.wrap (x_v21+1),cj,cl,di,_,_,rfl,(jb.keep [14,13,9] (by rfl)).cut 3 (by kernel_rfl),(fp.cutRw 2).cutPl 3 (by kernel_rfl),XU a4 (XU a5 jv),g0,az⟩⟩
    ·
     rw [du,XV] at az
     refine wp_exit ?_
     obtain rfl:=XZ az
     exact XY u ⟨x,bn,_,_,rfl,d5.kp,cv,a4,br⟩
  ·
   rintro _ lp ⟨b5,b8,cy,er,c3,rfl,jc,ej,l4,d0⟩
   refine XT (Aa (Rk 0 2 [tS 8 b5 b4.length b8] jc ej fun m9 jd=>?_))
   refine wf (wp_ret ?_)
   obtain⟨e8,jw,ka,ek⟩:=ej.settle (i:=1) rfl
   replace d0:=d0.mono jw
   replace ek:Ah ⟨w,h,A4⟩ e8 [(l,0),(m,0),(p,0)] [⟨Ez aa r_ am ah aq ai ar,some 28⟩,⟨Ey ab a aj ac ak ad al,some 50⟩,⟨Ew ae t_ an af ao ag ap,some 75⟩] [⟨f,d.length,g,3,1,a1,0⟩,⟨b5,b4.length,b8,3,1,cy,(cy:List Value).length⟩] lp:=ek
   have j9:A8 e8 b5 b8 b4:=⟨_,d0,ka,ej.rowCap (i:=1) rfl⟩
   obtain rfl:=XZ H
   exact rt (.one (.c (.slice b5 b4.length b8))) jd ek ⟨_,_,rfl,j9⟩
abbrev Jd (l:Option Addr) (t_:Ay) (aa:Nat) (m:Option Addr) (ab:Nat) (p:Option Addr) (ac:Nat):List SC:=[.slice l t_.tm.length aa,.slice m t_.turns.length ab,.slice p t_.legs.length ac]
abbrev Je (g:Option Addr) (a:Ao) (u:Nat) (i:Option Addr) (x:Nat) (k:Option Addr) (y:Nat):List SC:=[.slice g a.holds.length u,.slice i a.turns.length x,.slice k a.spares.length y]
abbrev Jf (f:Option Addr) (r_:Af) (z:Nat) (q:Option Addr) (ad:Nat) (s:Option Addr) (ae:Nat):List SC:=[.slice f r_.legs.length z,.int .i64 r_.turn.lo,.int .i64 r_.turn.hi,.slice q r_.buses.length ad,.slice s r_.spares.length ae,.int .i64 r_.unit,.int .i64 r_.gap,.int .i64 r_.fr,.int .i64 r_.to_]
set_option maxRecDepth 100000 in
set_option maxHeartbeats 4000000 in
theorem Nu (n:Nat) {h:Ae} {w:World} (hh:CU h w) (r_:Af) {cs_r_:List Value} (hx_r_:rep h r_ cs_r_) (a:Ao) {cs_a:List Value} (hx_a:rep h a cs_a) (t_:Ay) {cs_t_:List Value} (hx_t_:rep h t_ cs_t_) (stop:Int) {r:Int} (H:Jt n r_ a t_ stop=some r) :
  Calls Try.prog 40 #[.agg cs_r_.toArray,.agg cs_a.toArray,.agg cs_t_.toArray,.int .i64 stop] w (Da (fun h v=>v=.int .i64 r) h w):=by
 obtain⟨_,_,rfl,⟨f,z,rfl,a5⟩,⟨_,_,rfl,⟨_,_,rfl,rfl,rfl⟩,⟨_,_,rfl,⟨q,ad,rfl,a6⟩,⟨_,_,rfl,⟨s,ae,rfl,a7⟩,⟨_,_,rfl,rfl,⟨_,_,rfl,rfl,⟨_,_,rfl,rfl,rfl⟩⟩⟩⟩⟩⟩⟩:=hx_r_
 obtain⟨_,_,rfl,⟨g,u,rfl,az⟩,⟨_,_,rfl,⟨i,x,rfl,a0⟩,⟨k,y,rfl,a1⟩⟩⟩:=hx_a
 obtain⟨_,_,rfl,⟨l,aa,rfl,a2⟩,⟨_,_,rfl,⟨m,ab,rfl,a3⟩,⟨p,ac,rfl,a4⟩⟩⟩:=hx_t_
 refine enter 36 [.agg (Jf f r_ z q ad s ae),.agg (Je g a u i x k y),.agg (Jd l t_ aa m ab p ac),.c (.int .i64 stop)] Try.func40 rfl rfl rfl rfl fun t hk=>?_
 have hm:=Ah.begin h w hh
 unfold Jt at H
 refine XT (Aa (wl fun K hK=>?_))
 refine wb (.agg (Jf f r_ z q ad s ae)) hk hm fun af ch c3 (br:Kn 36 [(af,0)] [tP 4 0 0,tA 0 (Jf f r_ z q ad s ae),tA 1 (Je g a u i x k y),tA 2 (Jd l t_ aa m ab p ac),tI 3 stop] ch) b5=>hK _ _ ?_
 refine wl fun K hK=>?_
 refine wb (.agg (Je g a u i x k y)) br b5 fun ah ci c4 (bs:Kn 36 [(af,0),(ah,0)] [tP 5 1 0,tP 4 0 0,tA 0 (Jf f r_ z q ad s ae),tA 1 (Je g a u i x k y),tA 2 (Jd l t_ aa m ab p ac),tI 3 stop] ci) b6=>hK _ _ ?_
 refine wl fun K hK=>?_
 refine wb (.agg (Jd l t_ aa m ab p ac)) bs b6 fun ai cj c5 (bt:Kn 36 [(af,0),(ah,0),(ai,0)] [tP 6 2 0,tP 5 1 0,tP 4 0 0,tA 0 (Jf f r_ z q ad s ae),tA 1 (Je g a u i x k y),tA 2 (Jd l t_ aa m ab p ac),tI 3 stop] cj) al=>hK _ _ ?_
 refine Rk 3 1 [tP 6 2 0,tP 5 1 0,tP 4 0 0,tI 3 stop] bt al fun ct bu=>?_
 refine wf (XT (Aa (Rk 0 4 [tI 15 stop,tA 14 (Jd l t_ aa m ab p ac),tA 13 (Je g a u i x k y),tA 12 (Jf f r_ z q ad s ae)] bu al fun cu bv=>?_)))
 obtain⟨x16,ex16,H⟩:=Aw H
 refine wl fun K hK=>?_
 refine wc [.agg (Jf f r_ z q ad s ae),.agg (Je g a u i x k y),.agg (Jd l t_ aa m ab p ac),.c (.int .i64 stop)] bv al (ON n al.has r_ ((Ab (Ad a5) (Ab (Ab Ac Ac) (Ab (Ad a6) (Ab (Ad a7) (Ab Ac (Ab Ac (Ab Ac Ac))))))):rep h r_ _) a ((Ab (Ad az) (Ab (Ad a0) (Ad a1))):rep h a _) t_ ((Ab (Ad a2) (Ab (Ad a3) (Ad a4))):rep h t_ _) stop ex16) fun c1 be c6 bh aj am=>?_
 replace a5:=a5.mono aj
 replace a6:=a6.mono aj
 replace a7:=a7.mono aj
 replace az:=az.mono aj
 replace a0:=a0.mono aj
 replace a1:=a1.mono aj
 replace a2:=a2.mono aj
 replace a3:=a3.mono aj
 replace a4:=a4.mono aj
 obtain⟨d,e,rfl,an⟩:=bh
 refine⟨.one (.c (.slice d x16.length e)),rfl,fun ck (bw:Kn 36 [(af,0),(ah,0),(ai,0)] [tS 16 d x16.length e,tI 15 stop,tA 14 (Jd l t_ aa m ab p ac),tA 13 (Je g a u i x k y),tA 12 (Jf f r_ z q ad s ae)] ck)=>hK _ _ ?_⟩
 refine Rk 5 1 [tS 9 d x16.length e] bw am fun cv bx=>?_
 refine wf (XT (Aa (Rk 0 1 [tI 10 0,tS 9 d x16.length e] bx am fun cw bz=>?_)))
 refine wf (XT (XT (Aa (Rk 0 1 [tI 11 1,tI 10 0,tS 9 d x16.length e] bz am fun cx b0=>?_))))
 refine wf ?_
 obtain⟨ao,bd,H⟩:=Aw H
 refine Az (fun a' w'=>∃ (ba:Array Value)(aq:Ae),a' = ⟨ba,[]⟩∧Kn 36 [(af,0),(ah,0),(ai,0)] [tI 10 ao] ba∧Ah ⟨w,h,A4⟩ aq [(af,0),(ah,0),(ai,0)] [⟨Jf f r_ z q ad s ae,some 28⟩,⟨Je g a u i x k y,some 50⟩,⟨Jd l t_ aa m ab p ac,some 75⟩] [] w'∧Ae.le be aq) ?_ ?_
 ·
  refine wp_block ?_
  refine Ar (fun cf a' w'=>∃ (x_v10:Int)(x_v11:Int)(bb:Array Value)(ar:Ae),a' = ⟨bb,[]⟩∧Kn 36 [(af,0),(ah,0),(ai,0)] [tI 11 x_v10,tI 10 x_v11,tS 9 d x16.length e] bb∧Ah ⟨w,h,A4⟩ ar [(af,0),(ah,0),(ai,0)] [⟨Jf f r_ z q ad s ae,some 28⟩,⟨Je g a u i x k y,some 50⟩,⟨Jd l t_ aa m ab p ac,some 75⟩] [] w'∧Ae.le be ar∧EK cf x16 x_v10 x_v11=some ao) n ?_ ?_
  ·
   exact XY 1 ⟨0,_,_,rfl,b0.kp,am,Ae.le_refl _,bd⟩
  ·
   rintro a8 _ c7 ⟨x_v10,x_v11,bb,ar,rfl,b1,ak,aw,ag⟩
   clear bd
   obtain _ | a8:=a8
   ·
    rw [EK] at ag; cases ag
   rw [EK] at ag
   replace an:=an.mono aw
   refine XT (XT (Aa (Rk 0 4 [tB 20 (decide (x_v10<((x16.length:Nat):Int))),tI 11 x_v10,tI 10 x_v11,tS 9 d x16.length e] b1 ak fun cy av=>?_)))
   refine wf (wC (decide (x_v10<((x16.length:Nat):Int))) av (fun au=>?_) (fun au=>?_))
   ·
    rw [au,XW] at ag
    refine wp_skip (XT (wp_block (Am (by kernel_rfl) ?_)))
    replace ak:=ak.drew
    refine An [] [(af,0),(ah,0),(ai,0)] [⟨Jf f r_ z q ad s ae,some 28⟩,⟨Je g a u i x k y,some 50⟩,⟨Jd l t_ aa m ab p ac,some 75⟩] ?_
    refine Dr [0,1,2] [2,1,0] [tI 25 x_v10,tS 24 d x16.length e,tI 23 x_v11,tI 11 x_v10,tS 9 d x16.length e] av ak fun cz b2=>?_
    obtain⟨x26,ex26,ag⟩:=Aw ag
    obtain⟨b8,ca,ce⟩:=Ai ex26
    obtain⟨ap,a9,cm,bj,cc,bl⟩:=an.get (by decide) ce
    obtain rfl:=cc
    have ay:=ak.addPlc (b:=ap) (o:=a9+(x_v10:Int).toNat*1) (cs:=[.int .i64 x26]) (fun j c hj=>bl j _ (Ak hj)) rfl (by kernel_rfl) (by kernel_rfl)
    refine Au 3 (x_v10) [.int .i64 x26] (fun _ _ _ _ _ h=>h) rfl rfl (rfl) rfl (by decide) (by kernel_rfl) (by kernel_rfl) b2 ak.plOk (by rfl) (by rfl) (by rfl) bj (by rfl) b8 ca (by kernel_rfl) fun cl (b3:Kn 36 [(af,0),(ah,0),(ai,0),(ap,a9+(x_v10:Int).toNat*1)] [tP 26 3 0,tI 25 x_v10,tS 24 d x16.length e,tI 23 x_v11,tI 11 x_v10,tS 9 d x16.length e] cl)=>?_
    refine Dr [4,5,6,7] (dn 7) [tI 30 (IntKind.i64.wrap (x_v10-1)),tS 28 d x16.length e,tI 27 x26,tI 23 x_v11,tI 11 x_v10,tS 9 d x16.length e] b3 ay fun c0 b4=>?_
    obtain⟨x31,ex31,ag⟩:=Aw ag
    obtain⟨b7,b9,cd⟩:=Ai ex31
    obtain⟨bc,bg,cn,bi,cb,bk⟩:=an.get (by decide) cd
    obtain rfl:=cb
    have ax:=ay.addPlc (b:=bc) (o:=bg+(IntKind.i64.wrap (x_v10-1):Int).toNat*1) (cs:=[.int .i64 x31]) (fun j c hj=>bk j _ (Ak hj)) rfl (by kernel_rfl) (by kernel_rfl)
    refine Au 8 (IntKind.i64.wrap (x_v10-1)) [.int .i64 x31] (fun _ _ _ _ _ h=>h) rfl rfl (rfl) rfl (by decide) (by kernel_rfl) (by kernel_rfl) b4 ay.plOk (by rfl) (by rfl) (by rfl) bi (by rfl) b7 b9 (by kernel_rfl) fun cg (bm:Kn 36 [(af,0),(ah,0),(ai,0),(ap,a9+(x_v10:Int).toNat*1),(bc,bg+(IntKind.i64.wrap (x_v10-1):Int).toNat*1)] [tP 31 4 0,tI 30 (IntKind.i64.wrap (x_v10-1)),tS 28 d x16.length e,tI 27 x26,tI 23 x_v11,tI 11 x_v10,tS 9 d x16.length e] cg)=>?_
    refine Dr [9,10,11,12] (dn 12) [tI 10 (if (IntKind.i64.wrap (x26-x31))>x_v11 then(IntKind.i64.wrap (x26-x31)) else x_v11),tI 11 x_v10,tS 9 d x16.length e] bm ax fun cp bn=>?_
    refine A3 (by kernel_rfl) (Aa (Rk 0 3 [tI 11 (IntKind.i64.wrap (x_v10+1)),tI 10 (if (IntKind.i64.wrap (x26-x31))>x_v11 then(IntKind.i64.wrap (x26-x31)) else x_v11),tS 9 d x16.length e] bn ax fun cq bo=>?_))
    refine wf ?_
    exact XY a8 ⟨Nat.lt_succ_self _,XY (IntKind.i64.wrap (x_v10+1)) ⟨(if (IntKind.i64.wrap (x26-x31))>x_v11 then(IntKind.i64.wrap (x26-x31)) else x_v11),_,_,rfl,(bo.keep [11,10,9] (by rfl)).cut 3 (by kernel_rfl),ax.cutPl 3 (by kernel_rfl),aw,ag⟩⟩
   ·
    rw [au,XV] at ag
    refine wp_exit ?_
    obtain rfl:=XZ ag
    exact XY _ ⟨_,rfl,av.kp,ak,aw⟩
 ·
  rintro _ c2 ⟨ba,aq,rfl,bp,bf,co⟩
  refine XT (Aa (Rk 0 2 [tI 8 ao] bp bf fun cr bq=>?_))
  refine wf (wp_ret ?_)
  obtain rfl:=XZ H
  exact rt (.one (.c (.int .i64 ao))) bq bf rfl
abbrev Jg (j:Option Addr) (a:Ao) (m:Nat) (k:Option Addr) (o:Nat) (l:Option Addr) (p:Nat):List SC:=[.slice j a.holds.length m,.slice k a.turns.length o,.slice l a.spares.length p]
abbrev GC (b:Option Addr) (r_:Af) (f:Nat) (d:Option Addr) (g:Nat) (e:Option Addr) (i:Nat):List SC:=[.slice b r_.legs.length f,.int .i64 r_.turn.lo,.int .i64 r_.turn.hi,.slice d r_.buses.length g,.slice e r_.spares.length i,.int .i64 r_.unit,.int .i64 r_.gap,.int .i64 r_.fr,.int .i64 r_.to_]
set_option maxRecDepth 100000 in
set_option maxHeartbeats 4000000 in
theorem OO (n:Nat) {h:Ae} {w:World} (hh:CU h w) (r_:Af) {cs_r_:List Value} (hx_r_:rep h r_ cs_r_) (a:Ao) {cs_a:List Value} (hx_a:rep h a cs_a) (stop:Int) {r:Int} (H:H0 n r_ a stop=some r) :
  Calls Try.prog 20 #[.agg cs_r_.toArray,.agg cs_a.toArray,.int .i64 stop] w (Da (fun h v=>v=.int .i64 r) h w):=by
 obtain⟨_,_,rfl,⟨b,f,rfl,aa⟩,⟨_,_,rfl,⟨_,_,rfl,rfl,rfl⟩,⟨_,_,rfl,⟨d,g,rfl,ab⟩,⟨_,_,rfl,⟨e,i,rfl,ac⟩,⟨_,_,rfl,rfl,⟨_,_,rfl,rfl,⟨_,_,rfl,rfl,rfl⟩⟩⟩⟩⟩⟩⟩:=hx_r_
 obtain⟨_,_,rfl,⟨j,m,rfl,ad⟩,⟨_,_,rfl,⟨k,o,rfl,ae⟩,⟨l,p,rfl,af⟩⟩⟩:=hx_a
 refine enter 32 [.agg (GC b r_ f d g e i),.agg (Jg j a m k o l p),.c (.int .i64 stop)] Try.func20 rfl rfl rfl rfl fun t hk=>?_
 have hm:=Ah.begin h w hh
 unfold H0 at H
 refine XT (Aa (wl fun K hK=>?_))
 refine wb (.agg (GC b r_ f d g e i)) hk hm fun s bp b8 (a4:Kn 32 [(s,0)] [tP 3 0 0,tA 0 (GC b r_ f d g e i),tA 1 (Jg j a m k o l p),tI 2 stop] bp) bk=>hK _ _ ?_
 refine wl fun K hK=>?_
 refine wb (.agg (Jg j a m k o l p)) a4 bk fun u bq b9 (a5:Kn 32 [(s,0),(u,0)] [tP 4 1 0,tP 3 0 0,tA 0 (GC b r_ f d g e i),tA 1 (Jg j a m k o l p),tI 2 stop] bq) ao=>hK _ _ ?_
 refine Rk 2 1 [tP 4 1 0,tP 3 0 0,tI 2 stop] a5 ao fun bw a6=>?_
 refine wf (XT (Aa (Rk 0 1 [tI 7 0,tP 4 1 0,tP 3 0 0,tI 2 stop] a6 ao fun bx a7=>?_)))
 refine wf (XT (XT (Aa (Rk 0 1 [tI 8 0,tI 7 0,tP 4 1 0,tP 3 0 0,tI 2 stop] a7 ao fun bz a8=>?_))))
 refine wf ?_
 obtain⟨aq,a0,H⟩:=Aw H
 refine Az (fun a' w'=>∃ (ay:Array Value)(ar:Ae),a' = ⟨ay,[]⟩∧Kn 32 [(s,0),(u,0)] [tI 7 aq] ay∧Ah ⟨w,h,A4⟩ ar [(s,0),(u,0)] [⟨GC b r_ f d g e i,some 28⟩,⟨Jg j a m k o l p,some 50⟩] [] w'∧Ae.le h ar) ?_ ?_
 ·
  refine wp_block ?_
  refine Ar (fun bo a' w'=>∃ (x_v10:Int)(x_v11:Int)(az:Array Value)(an:Ae),a' = ⟨az,[]⟩∧Kn 32 [(s,0),(u,0)] [tI 8 x_v10,tI 7 x_v11,tP 4 1 0,tP 3 0 0,tI 2 stop] az∧Ah ⟨w,h,A4⟩ an [(s,0),(u,0)] [⟨GC b r_ f d g e i,some 28⟩,⟨Jg j a m k o l p,some 50⟩] [] w'∧Ae.le h an∧DA bo r_ a stop x_v10 x_v11=some aq) n ?_ ?_
  ·
   exact XY 0 ⟨0,_,_,rfl,a8.kp,ao,Ae.le_refl _,a0⟩
  ·
   rintro ag _ ca ⟨x_v10,x_v11,az,an,rfl,a9,y,x,q⟩
   clear a0
   obtain _ | ag:=ag
   ·
    rw [DA] at q; cases q
   rw [DA] at q
   replace aa:=aa.mono x
   replace ab:=ab.mono x
   replace ac:=ac.mono x
   replace ad:=ad.mono x
   replace ae:=ae.mono x
   replace af:=af.mono x
   refine XT (XT (Aa (Rk 0 9 [(17,.one (.c (.int .u64 (IntKind.u64.wrap (IntKind.i64.wrap (((r_.buses.length:Nat):Int)+((r_.spares.length:Nat):Int))))))),tI 9 x_v10,tI 8 x_v10,tI 7 x_v11,tP 4 1 0,tP 3 0 0,tI 2 stop] a9 y fun b0 ba=>?_)))
   obtain⟨x18,ex18,q⟩:=Aw q
   refine Tl 9 ba rfl rfl (rfl) rfl (by decide) (by rfl) (by rfl) (Pz ex18) fun br (bb:Kn 32 [(s,0),(u,0)] [tI 18 (IntKind.i64.wrap (1*2 ^ (min (IntKind.u64.wrap (IntKind.i64.wrap (((r_.buses.length:Nat):Int)+((r_.spares.length:Nat):Int))):Int).toNat 64))),(17,.one (.c (.int .u64 (IntKind.u64.wrap (IntKind.i64.wrap (((r_.buses.length:Nat):Int)+((r_.spares.length:Nat):Int))))))),tI 9 x_v10,tI 8 x_v10,tI 7 x_v11,tP 4 1 0,tP 3 0 0,tI 2 stop] br)=>?_
   refine Rk 10 1 [tB 19 (decide (x_v10<(IntKind.i64.wrap (1*2 ^ (min (IntKind.u64.wrap (IntKind.i64.wrap (((r_.buses.length:Nat):Int)+((r_.spares.length:Nat):Int))):Int).toNat 64))))),tI 8 x_v10,tI 7 x_v11,tP 4 1 0,tP 3 0 0,tI 2 stop] bb y fun b1 aw=>?_
   refine wf (wC (decide (x_v10<(IntKind.i64.wrap (1*2 ^ (min (IntKind.u64.wrap (IntKind.i64.wrap (((r_.buses.length:Nat):Int)+((r_.spares.length:Nat):Int))):Int).toNat 64))))) aw (fun av=>?_) (fun av=>?_))
   ·
    rw [av,XW] at q
    refine wp_skip (XT (wp_block (Am (by kernel_rfl) ?_)))
    replace y:=y.drew
    refine An [] [(s,0),(u,0)] [⟨GC b r_ f d g e i,some 28⟩,⟨Jg j a m k o l p,some 50⟩] ?_
    refine Dr [0,1,2,3,4,6] [6,4,3,2,1,0] [tI 28 stop,tI 26 x_v10,tA 25 (GC b r_ f d g e i),tA 24 (Jg j a m k o l p),tA 23 (GC b r_ f d g e i),tI 22 x_v11,tI 8 x_v10,tP 4 1 0,tP 3 0 0,tI 2 stop] aw y fun b2 bc=>?_
    obtain⟨x27,ex27,q⟩:=Aw q
    refine Dl 5 fun K hK=>?_
    refine wc [.agg (GC b r_ f d g e i),.c (.int .i64 x_v10)] bc y (PN ag y.has r_ ((Ab (Ad aa) (Ab (Ab Ac Ac) (Ab (Ad ab) (Ab (Ad ac) (Ab Ac (Ab Ac (Ab Ac Ac))))))):rep an r_ _) x_v10 ex27) fun b6 au cb a2 z ax=>?_
    replace aa:=aa.mono z
    replace ab:=ab.mono z
    replace ac:=ac.mono z
    replace ad:=ad.mono z
    replace ae:=ae.mono z
    replace af:=af.mono z
    obtain⟨_,rfl,⟨_,_,rfl,⟨ah,ak,rfl,bl⟩,⟨_,_,rfl,⟨ai,al,rfl,bm⟩,⟨aj,am,rfl,bn⟩⟩⟩⟩:=a2
    refine⟨.one (.agg [.slice ah x27.tm.length ak,.slice ai x27.turns.length al,.slice aj x27.legs.length am]),rfl,fun bs (bd:Kn 32 [(s,0),(u,0)] [tA 27 [.slice ah x27.tm.length ak,.slice ai x27.turns.length al,.slice aj x27.legs.length am],tI 28 stop,tI 26 x_v10,tA 25 (GC b r_ f d g e i),tA 24 (Jg j a m k o l p),tA 23 (GC b r_ f d g e i),tI 22 x_v11,tI 8 x_v10,tP 4 1 0,tP 3 0 0,tI 2 stop] bs)=>hK _ _ ax.plOk ?_⟩
    obtain⟨x29,ex29,q⟩:=Aw q
    refine Dl 7 fun K hK=>?_
    refine wc [.agg (GC b r_ f d g e i),.agg (Jg j a m k o l p),.agg [.slice ah x27.tm.length ak,.slice ai x27.turns.length al,.slice aj x27.legs.length am],.c (.int .i64 stop)] bd ax (Nu ag ax.has r_ ((Ab (Ad aa) (Ab (Ab Ac Ac) (Ab (Ad ab) (Ab (Ad ac) (Ab Ac (Ab Ac (Ab Ac Ac))))))):rep au r_ _) a ((Ab (Ad ad) (Ab (Ad ae) (Ad af))):rep au a _) x27 ((Ab (Ad bl) (Ab (Ad bm) (Ad bn))):rep au x27 _) stop ex29) fun b7 bu cc a3 bj ap=>?_
    obtain rfl:=a3
    refine⟨.one (.c (.int .i64 x29)),rfl,fun bt (be:Kn 32 [(s,0),(u,0)] [tI 29 x29,tA 27 [.slice ah x27.tm.length ak,.slice ai x27.turns.length al,.slice aj x27.legs.length am],tI 28 stop,tI 26 x_v10,tA 25 (GC b r_ f d g e i),tA 24 (Jg j a m k o l p),tA 23 (GC b r_ f d g e i),tI 22 x_v11,tI 8 x_v10,tP 4 1 0,tP 3 0 0,tI 2 stop] bt)=>hK _ _ ap.plOk ?_⟩
    refine Dr [8,9] [9,8,7,5,6,4,3,2,1,0] [tI 7 (if x29>x_v11 then x29 else x_v11),tI 8 x_v10,tP 4 1 0,tP 3 0 0,tI 2 stop] be ap fun b3 bf=>?_
    refine A3 (by kernel_rfl) (Aa (Rk 0 3 [tI 8 (IntKind.i64.wrap (x_v10+1)),tI 7 (if x29>x_v11 then x29 else x_v11),tP 4 1 0,tP 3 0 0,tI 2 stop] bf ap fun b4 bg=>?_))
    refine wf ?_
    exact XY ag ⟨Nat.lt_succ_self _,XY (IntKind.i64.wrap (x_v10+1)) ⟨(if x29>x_v11 then x29 else x_v11),_,_,rfl,bg.kp,ap,XU x (XU z bj),q⟩⟩
   ·
    rw [av,XV] at q
    refine wp_exit ?_
    obtain rfl:=XZ q
    exact XY _ ⟨_,rfl,aw.kp,y,x⟩
 ·
  rintro _ cd ⟨ay,ar,rfl,bh,a1,bv⟩
  refine XT (Aa (Rk 0 2 [tI 6 aq] bh a1 fun b5 bi=>?_))
  refine wf (wp_ret ?_)
  obtain rfl:=XZ H
  exact rt (.one (.c (.int .i64 aq))) bi a1 rfl
end Go.Proofs.Ytokchpjijlebiaa
