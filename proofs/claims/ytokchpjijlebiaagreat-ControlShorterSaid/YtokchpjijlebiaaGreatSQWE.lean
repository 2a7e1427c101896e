/- Each call computes its plain function. -/
import Derived.Test.YtokchpjijlebiaaGreatProg
import Derived.Test.YtokchpjijlebiaaGreatSQP0
import Derived.Test.YtokchpjijlebiaaGreatSQWD
set_option linter.all false
namespace Go.Proofs.YtokchpjijlebiaaGreat
open Go Go.RowKit
open Rep (rep)
open KRep (kv)
open VRep (rv)
abbrev S4 (x31:Rg):List SC:=[.int .i64 x31.lo,.int .i64 x31.hi]
abbrev S5 (x57:Cu):List SC:=[.int .i64 x57.tm.lo,.int .i64 x57.tm.hi]
abbrev Lg (r_:Af):List SC:=[.int .i64 r_.turn.lo,.int .i64 r_.turn.hi]
abbrev F9:List SC:=[.slice none 0 0,.slice none 0 0,.slice none 0 0]
abbrev Lh (x57:Cu):List SC:=[.int .i64 x57.stop,.int .i64 x57.tm.lo,.int .i64 x57.tm.hi]
abbrev EN (a d g u z:Nat) (x_v13:Int):Bf:=[(a,0),(d,0),(g,0),(u,z+(x_v13:Int).toNat*3)]
abbrev MH (k:Option Addr) (x_v10:List Int) (l:Nat) (e:Option Addr) (x_v11:List Int) (f:Nat) (ae:Option Addr) (x45:List (List Int)) (af:Nat):List SC:=[.slice k x_v10.length l,.slice e x_v11.length f,.slice ae x45.length af]
abbrev Mv (ah:Option Addr) (m:((List Int)×(List Int)×(List (List Int)))) (ak:Nat) (ai:Option Addr) (al:Nat) (aj:Option Addr) (am:Nat):List SC:=[.slice ah m.1.length ak,.slice ai m.2.1.length al,.slice aj m.2.2.length am]
abbrev Ff (q:Option Addr) (r_:Af) (x:Nat) (s:Option Addr) (y:Nat) (aa:Option Addr) (ac:Nat):List SC:=[.slice q r_.legs.length x,.int .i64 r_.turn.lo,.int .i64 r_.turn.hi,.slice s r_.buses.length y,.slice aa r_.spares.length ac,.int .i64 r_.unit,.int .i64 r_.gap,.int .i64 r_.fr,.int .i64 r_.to_]
abbrev CQ (x_v13:Int) (a_words:Option Addr) (words:List (IK .u16)) (c_words:Nat):TM:=[tI 6 x_v13,tP 5 2 0,tP 4 1 0,tP 2 0 0,tS 1 a_words words.length c_words]
abbrev KR (x_v13:Int) (a_words:Option Addr) (words:List (IK .u16)) (c_words:Nat) (e:Option Addr) (x_v11:List Int) (f:Nat) (x57:Cu) (k:Option Addr) (x_v10:List Int) (l:Nat):TM:=(tI 74 (IntKind.i64.wrap ((IntKind.i64.wrap (9*x_v13))+8)))::(tS 71 a_words words.length c_words)::(tP 69 0 1)::(tS 68 e x_v11.length f)::(tI 63 (IntKind.i64.wrap ((IntKind.i64.wrap (9*x_v13))+7)))::(tS 60 a_words words.length c_words)::(tA 59 (S5 x57))::(tS 53 k x_v10.length l)::(CQ x_v13 a_words words c_words)
abbrev Qa (r_:Af) (av:Option Addr) (x66:List Int) (aw:Nat) (x_v13:Int) (a_words:Option Addr) (words:List (IK .u16)) (c_words:Nat) (e:Option Addr) (x_v11:List Int) (f:Nat):TM:=(tA 70 (Lg r_))::(tP 78 2 0)::(tS 66 av x66.length aw)::(tI 74 (IntKind.i64.wrap ((IntKind.i64.wrap (9*x_v13))+8)))::(tS 71 a_words words.length c_words)::(tS 68 e x_v11.length f)::(CQ x_v13 a_words words c_words)
abbrev Qb (x_v13 x_v21:Int) (a_words:Option Addr) (words:List (IK .u16)) (c_words:Nat) (x31:Rg) (ay:Option Addr) (x_v20:List Int) (az:Nat):TM:=(tI 37 (IntKind.i64.wrap ((IntKind.i64.wrap (9*x_v13))+x_v21)))::(tS 33 a_words words.length c_words)::(tA 32 (S4 x31))::(tS 27 ay x_v20.length az)::(tI 8 x_v21)::(CQ x_v13 a_words words c_words)
abbrev Qc (x_v13:Int) (a_words:Option Addr) (words:List (IK .u16)) (c_words:Nat) (e:Option Addr) (x_v11:List Int) (f:Nat) (k:Option Addr) (x_v10:List Int) (l:Nat):TM:=(tI 74 (IntKind.i64.wrap ((IntKind.i64.wrap (9*x_v13))+8)))::(tS 71 a_words words.length c_words)::(tS 68 e x_v11.length f)::(tS 53 k x_v10.length l)::(CQ x_v13 a_words words c_words)
set_option maxRecDepth 100000 in
set_option maxHeartbeats 4000000 in
theorem MI (n:Nat) {h:Ae} {w:World} (hh:CG h w) (r_:Af) {cs_r_:List Value} (hx_r_:rep h r_ cs_r_) (words:List (IK .u16)) {a_words:Option Addr} {c_words:Nat} (hr_words:Az h a_words c_words words) {r:Aw} (H:FX n r_ words=some r) :
  Calls Tryz.prog 8 #[.agg cs_r_.toArray,.slice a_words words.length c_words] w (CH (fun h v=>∃ cs,v=.agg cs.toArray∧rep h r cs) h w):=by
 obtain⟨_,_,rfl,⟨q,x,rfl,bd⟩,⟨_,_,rfl,⟨_,_,rfl,rfl,rfl⟩,⟨_,_,rfl,⟨s,y,rfl,be⟩,⟨_,_,rfl,⟨aa,ac,rfl,bo⟩,⟨_,_,rfl,rfl,⟨_,_,rfl,rfl,⟨_,_,rfl,rfl,rfl⟩⟩⟩⟩⟩⟩⟩:=hx_r_
 refine enter 81 [.agg (Ff q r_ x s y aa ac),.c (.slice a_words words.length c_words)] Tryz.func8 rfl rfl rfl rfl fun t hk=>?_
 have hm:=Ah.begin h w hh
 unfold FX at H
 refine XT (Aa (wl fun K hK=>?_))
 refine wb (.agg (Ff q r_ x s y aa ac)) hk hm fun a h7 jv (fs:Kn 81 [(a,0)] [tP 2 0 0,tA 0 (Ff q r_ x s y aa ac),tS 1 a_words words.length c_words] h7) he=>hK _ _ ?_
 refine wl fun K hK=>?_
 refine wa F9 fs he fun d eu j0 (f1:Kn 81 [(a,0),(d,0)] [tP 4 1 0,tP 2 0 0,tA 0 (Ff q r_ x s y aa ac),tS 1 a_words words.length c_words] eu) hf=>hK _ _ ?_
 have f6:Kn 81 [(a,0),(d,0)] [tP 4 1 0,tP 2 0 0,tS 1 a_words words.length c_words] eu:=f1.kp
 refine wf (XT (Aa (wl fun K hK=>?_)))
 refine wa F9 f6 hf fun g ii dv (gb:Kn 81 [(a,0),(d,0),(g,0)] [tP 5 2 0,tP 4 1 0,tP 2 0 0,tS 1 a_words words.length c_words] ii) ei=>hK _ _ ?_
 refine wf (XT (XT (Aa (Rk 0 1 [tI 6 0,tP 5 2 0,tP 4 1 0,tP 2 0 0,tS 1 a_words words.length c_words] gb ei fun jj gj=>?_))))
 refine wf ?_
 have hl:Ah ⟨w,h,AB⟩ h [(a,0),(d,0),(g,0)] [⟨Ff q r_ x s y aa ac,some 28⟩,⟨F9,some 38⟩,⟨F9,some 38⟩] [⟨none,0,0,3,1,[],0⟩] dv:=ei.nilRow 3 1
 have fc:Ag h ([]:List Int) []:=Ag.nil
 have ho:Ah ⟨w,h,AB⟩ h [(a,0),(d,0),(g,0)] [⟨Ff q r_ x s y aa ac,some 28⟩,⟨F9,some 38⟩,⟨F9,some 38⟩] [⟨none,0,0,3,1,[],0⟩,⟨none,0,0,3,1,[],0⟩] dv:=hl.nilRow 3 1
 have fe:Ag h ([]:List Int) []:=Ag.nil
 have hp:Ah ⟨w,h,AB⟩ h [(a,0),(d,0),(g,0)] [⟨Ff q r_ x s y aa ac,some 28⟩,⟨F9,some 38⟩,⟨F9,some 38⟩] [⟨none,0,0,3,1,[],0⟩,⟨none,0,0,3,1,[],0⟩,⟨none,0,0,29,1,[],0⟩] dv:=ho.nilRow 29 1
 have fg:Ag h ([]:List (List Int)) []:=Ag.nil
 obtain⟨m,d2,H⟩:=Ap H
 refine At (fun a' w'=>∃ (ah:Option Addr)(ak:Nat)(a7:List Value)(ai:Option Addr)(al:Nat)(ba:List Value)(aj:Option Addr)(am:Nat)(bg:List Value)(dq:Array Value)(bk:Ae),a' = ⟨dq,[]⟩∧Kn 81 [(a,0),(d,0),(g,0)] [tP 5 2 0,tP 4 1 0] dq∧Ah ⟨w,h,AB⟩ bk [(a,0),(d,0),(g,0)] [⟨Ff q r_ x s y aa ac,some 28⟩,⟨F9,some 38⟩,⟨Mv ah m ak ai al aj am,some 38⟩] [⟨ah,m.1.length,ak,3,1,a7,0⟩,⟨ai,m.2.1.length,al,3,1,ba,0⟩,⟨aj,m.2.2.length,am,29,1,bg,0⟩] w'∧Ae.le h bk∧Ag bk m.1 a7∧Ag bk m.2.1 ba∧Ag bk m.2.2 bg) ?_ ?_
 ·
  refine wp_block ?_
  refine As (fun h5 a' w'=>∃ (x_v10:List Int)(x_v11:List Int)(x_v12:List (List Int))(x_v13:Int)(k:Option Addr)(l:Nat)(an:List Value)(e:Option Addr)(f:Nat)(ao:List Value)(aq:Option Addr)(ar:Nat)(ap:List Value)(dr:Array Value)(a2:Ae),a' = ⟨dr,[]⟩∧Kn 81 [(a,0),(d,0),(g,0)] (CQ x_v13 a_words words c_words) dr∧Ah ⟨w,h,AB⟩ a2 [(a,0),(d,0),(g,0)] [⟨Ff q r_ x s y aa ac,some 28⟩,⟨F9,some 38⟩,⟨[.slice k x_v10.length l,.slice e x_v11.length f,.slice aq x_v12.length ar],some 38⟩] [⟨k,x_v10.length,l,3,1,an,0⟩,⟨e,x_v11.length,f,3,1,ao,0⟩,⟨aq,x_v12.length,ar,29,1,ap,0⟩] w'∧Ae.le h a2∧Ag a2 x_v10 an∧Ag a2 x_v11 ao∧Ag a2 x_v12 ap∧Ct h5 r_ words x_v10 x_v11 x_v12 x_v13=some m) n ?_ ?_
  ·
   exact XY ([]:List Int) ⟨([]:List Int),([]:List (List Int)),0,none,0,[],none,0,[],none,0,[],_,_,rfl,gj.kp,hp,Ae.le_refl _,fc,fe,fg,d2⟩
  ·
   rintro a9 _ i2 ⟨x_v10,x_v11,x_v12,x_v13,k,l,an,e,f,ao,aq,ar,ap,dr,a2,rfl,g2,b1,bc,a1,a4,bl,ag⟩
   clear d2
   obtain _ | a9:=a9
   ·
    rw [Ct] at ag; cases ag
   rw [Ct] at ag
   replace bd:=bd.mono bc
   replace be:=be.mono bc
   replace bo:=bo.mono bc
   replace hr_words:=hr_words.mono bc
   refine XT (XT (Aa (Rk 0 9 ((tB 17 (decide (x_v13<(IntKind.i64.wrap (((r_.buses.length:Nat):Int)+((r_.spares.length:Nat):Int))))))::(CQ x_v13 a_words words c_words)) g2 b1 fun jo c3=>?_)))
   refine wf (wC (decide (x_v13<(IntKind.i64.wrap (((r_.buses.length:Nat):Int)+((r_.spares.length:Nat):Int))))) c3 (fun cr=>?_) (fun cr=>?_))
   ·
    rw [cr,XW] at ag
    refine wp_skip (XT (wp_block (XT (Aa (Rk 0 1 ((tS 7 none 0 0)::(CQ x_v13 a_words words c_words)) c3 b1 fun jp g3=>?_)))))
    refine wf (XT (XT (Aa (Rk 0 1 ((tI 8 0)::(tS 7 none 0 0)::(CQ x_v13 a_words words c_words)) g3 b1 fun jq g4=>?_))))
    refine wf ?_
    have hq:Ah ⟨w,h,AB⟩ a2 [(a,0),(d,0),(g,0)] [⟨Ff q r_ x s y aa ac,some 28⟩,⟨F9,some 38⟩,⟨[.slice k x_v10.length l,.slice e x_v11.length f,.slice aq x_v12.length ar],some 38⟩] [⟨k,x_v10.length,l,3,1,an,0⟩,⟨e,x_v11.length,f,3,1,ao,0⟩,⟨aq,x_v12.length,ar,29,1,ap,0⟩,⟨none,0,0,3,1,[],0⟩] i2:=b1.nilRow 3 1
    have fh:Ag a2 ([]:List Int) []:=Ag.nil
    obtain⟨p,d3,ag⟩:=Ap ag
    refine At (fun a' w'=>∃ (ab:Option Addr)(ad:Nat)(au:List Value)(ds:Array Value)(b7:Ae),a' = ⟨ds,[]⟩∧Kn 81 [(a,0),(d,0),(g,0)] ((tS 7 ab p.length ad)::(CQ x_v13 a_words words c_words)) ds∧Ah ⟨w,h,AB⟩ b7 [(a,0),(d,0),(g,0)] [⟨Ff q r_ x s y aa ac,some 28⟩,⟨F9,some 38⟩,⟨[.slice k x_v10.length l,.slice e x_v11.length f,.slice aq x_v12.length ar],some 38⟩] [⟨k,x_v10.length,l,3,1,an,0⟩,⟨e,x_v11.length,f,3,1,ao,0⟩,⟨aq,x_v12.length,ar,29,1,ap,0⟩,⟨ab,p.length,ad,3,1,au,0⟩] w'∧Ae.le a2 b7∧Ag b7 p au) ?_ ?_
    ·
     refine wp_block ?_
     refine As (fun h6 a' w'=>∃ (x_v20:List Int)(x_v21:Int)(ay:Option Addr)(az:Nat)(bp:List Value)(dt:Array Value)(bw:Ae),a' = ⟨dt,[]⟩∧Kn 81 [(a,0),(d,0),(g,0)] ((tI 8 x_v21)::(tS 7 ay x_v20.length az)::(CQ x_v13 a_words words c_words)) dt∧Ah ⟨w,h,AB⟩ bw [(a,0),(d,0),(g,0)] [⟨Ff q r_ x s y aa ac,some 28⟩,⟨F9,some 38⟩,⟨[.slice k x_v10.length l,.slice e x_v11.length f,.slice aq x_v12.length ar],some 38⟩] [⟨k,x_v10.length,l,3,1,an,0⟩,⟨e,x_v11.length,f,3,1,ao,0⟩,⟨aq,x_v12.length,ar,29,1,ap,0⟩,⟨ay,x_v20.length,az,3,1,bp,0⟩] w'∧Ae.le a2 bw∧Ag bw x_v20 bp∧CL h6 r_ words x_v13 x_v20 x_v21=some p) a9 ?_ ?_
     ·
      exact XY ([]:List Int) ⟨0,none,0,[],_,_,rfl,g4.kp,hq,Ae.le_refl _,fh,d3⟩
     ·
      rintro ch _ kh ⟨x_v20,x_v21,ay,az,bp,dt,bw,rfl,g5,ce,a5,ca,a0⟩
      clear d3
      obtain _ | ch:=ch
      ·
       rw [CL] at a0; cases a0
      rw [CL] at a0
      replace bd:=bd.mono a5
      replace be:=be.mono a5
      replace bo:=bo.mono a5
      replace hr_words:=hr_words.mono a5
      replace a1:=a1.mono a5
      replace a4:=a4.mono a5
      replace bl:=bl.mono a5
      refine XT (XT (Aa (Rk 0 5 ((tB 24 (decide (x_v21<((r_.legs.length:Nat):Int))))::(tI 8 x_v21)::(tS 7 ay x_v20.length az)::(CQ x_v13 a_words words c_words)) g5 ce fun ja c1=>?_)))
      refine wf (wC (decide (x_v21<((r_.legs.length:Nat):Int))) c1 (fun cp=>?_) (fun cp=>?_))
      ·
       rw [cp,XW] at a0
       refine wp_skip (XT (wp_block (Aa (Rk 0 4 ((tI 30 x_v21)::(tS 29 q r_.legs.length x)::(tS 27 ay x_v20.length az)::(tI 8 x_v21)::(CQ x_v13 a_words words c_words)) c1 ce fun jb fn=>?_))))
       obtain⟨x31,ex31,a0⟩:=Ap a0
       obtain⟨hr,ht,h3⟩:=Ak ex31
       obtain⟨bs,b2,i3,e5,h1,e7⟩:=bd.get (by decide) h3
       obtain⟨_,_,rfl,rfl,rfl⟩:=h1
       have c7:=ce.addPlc (b:=bs) (o:=b2+(x_v21:Int).toNat*2) (cs:=(S4 x31)) (fun j c hj=>e7 j _ (Aj hj)) rfl (by kernel_rfl) (by kernel_rfl)
       refine AS 4 (x_v21) rfl rfl (rfl) rfl (by decide) fn (by rfl) (by rfl) (by rfl) e5 (by rfl) hr ht (by kernel_rfl) fun h8 (fo:Kn 81 [(a,0),(d,0),(g,0),(bs,b2+(x_v21:Int).toNat*2)] ((tP 31 3 0)::(tI 30 x_v21)::(tS 29 q r_.legs.length x)::(tS 27 ay x_v20.length az)::(tI 8 x_v21)::(CQ x_v13 a_words words c_words)) h8)=>?_
       refine Rk 5 6 (Qb x_v13 x_v21 a_words words c_words x31 ay x_v20 az) fo c7 fun jc fp=>?_
       obtain⟨x38,ex38,a0⟩:=Ap a0
       refine wl fun K hK=>?_
       refine wc [.agg (S4 x31),.c (.slice a_words words.length c_words),.c (.int .i64 (IntKind.i64.wrap ((IntKind.i64.wrap (9*x_v13))+x_v21)))] fp c7 (Gt ch c7.has x31 ((Ab Ac Ac):rep bw x31 _) words hr_words (IntKind.i64.wrap ((IntKind.i64.wrap (9*x_v13))+x_v21)) ex38) fun jr cl jw e1 d9 hd=>?_
       replace ca:=ca.mono d9
       obtain rfl:=e1
       refine⟨.one (.c (.int .i64 x38)),rfl,fun h9 (fq:Kn 81 [(a,0),(d,0),(g,0),(bs,b2+(x_v21:Int).toNat*2)] ((tI 38 x38)::(Qb x_v13 x_v21 a_words words c_words x31 ay x_v20 az)) h9)=>hK _ _ ?_⟩
       refine wl fun K hK=>?_
       refine wS 3 1 [.int .i64 x38] fq hd fun dx ia jx (ft:Kn 81 [(a,0),(d,0),(g,0),(bs,b2+(x_v21:Int).toNat*2)] ((tS 39 dx 1 1)::(tI 38 x38)::(Qb x_v13 x_v21 a_words words c_words x31 ay x_v20 az)) ia) eb=>?_
       have ct:Ag cl ([x38]:List Int) ([.int .i64 x38]:List Value):=⟨_,_,rfl,(Ac:rep cl (x38:Int) _),rfl⟩
       refine hK _ _ ?_
       obtain⟨x40,ex40,a0⟩:=Ap a0
       obtain⟨dg,g6⟩:=AQ ex40
       refine wl fun K hK=>?_
       refine AA 3 8 1 _ (x40.length) _ ([.int .i64 x38]:List Value) ft eb rfl rfl (by decide) rfl (by rfl) (by kernel_rfl) (by rfl) (by rfl) (Ag.len ct) (eb.rowCell (i:=4) rfl) ct.one (by rw [dg]; simp <;> omega) (by rw [dg]; exact g6) (by decide) fun b3 b5 ew ib jy fi (fu:Kn 81 [(a,0),(d,0),(g,0),(bs,b2+(x_v21:Int).toNat*2)] ((tS 40 b3 x40.length b5)::(tS 39 dx 1 1)::(tI 38 x38)::(Qb x_v13 x_v21 a_words words c_words x31 ay x_v20 az)) ib) c8=>?_
       have e8:Ag cl x40 (bp++([.int .i64 x38]:List Value)):=by rw [dg]; exact Ag.append ca ct
       obtain rfl:ew=0:=Nat.le_zero.1 fi
       refine hK _ _ ?_
       refine Rk 14 1 ((tS 7 b3 x40.length b5)::(tI 8 x_v21)::(CQ x_v13 a_words words c_words)) fu c8 fun jd fv=>?_
       refine wf (Aa (Rk 0 3 ((tI 8 (IntKind.i64.wrap (x_v21+1)))::(tS 7 b3 x40.length b5)::(CQ x_v13 a_words words c_words)) fv c8 fun je fw=>?_))
       refine wf ?_
       exact XY ch ⟨Nat.lt_succ_self _,XY x40 ⟨IntKind.i64.wrap (x_v21+1),b3,b5,bp++([.int .i64 x38]:List Value),_,_,rfl,(fw.keep [8,7,6,5,4,2,1] (by rfl)).cut 3 (by kernel_rfl),(c8.cutRw 4).cutPl 3 (by kernel_rfl),XU a5 d9,e8,a0⟩⟩
      ·
       rw [cp,XV] at a0
       refine wp_exit ?_
       obtain rfl:=XZ a0
       exact XY ay ⟨az,bp,_,_,rfl,c1.kp,ce,a5,ca⟩
    ·
     rintro _ i1 ⟨ab,ad,au,ds,b7,rfl,fx,c9,a6,c0⟩
     refine XT (Aa (Rk 0 3 ((tS 43 ab p.length ad)::(tS 42 aq x_v12.length ar)::(CQ x_v13 a_words words c_words)) fx c9 fun jf fy=>?_))
     obtain⟨ax,a3,hx,da⟩:=c9.settle (i:=3) rfl
     replace bd:=bd.mono (XU a6 a3)
     replace be:=be.mono (XU a6 a3)
     replace bo:=bo.mono (XU a6 a3)
     replace hr_words:=hr_words.mono (XU a6 a3)
     replace a1:=a1.mono (XU a6 a3)
     replace a4:=a4.mono (XU a6 a3)
     replace bl:=bl.mono (XU a6 a3)
     replace c0:=c0.mono a3
     replace da:Ah ⟨w,h,AB⟩ ax [(a,0),(d,0),(g,0)] [⟨Ff q r_ x s y aa ac,some 28⟩,⟨F9,some 38⟩,⟨[.slice k x_v10.length l,.slice e x_v11.length f,.slice aq x_v12.length ar],some 38⟩] [⟨k,x_v10.length,l,3,1,an,0⟩,⟨e,x_v11.length,f,3,1,ao,0⟩,⟨aq,x_v12.length,ar,29,1,ap,0⟩,⟨ab,p.length,ad,3,1,au,(au:List Value).length⟩] i1:=da
     have hv:Az ax ab ad p:=⟨_,c0,hx,c9.rowCap (i:=3) rfl⟩
     refine wl fun K hK=>?_
     refine wS 29 1 [.slice ab p.length ad] fy da fun bb ic jz (fz:Kn 81 [(a,0),(d,0),(g,0)] ((tS 44 bb 1 1)::(tS 43 ab p.length ad)::(tS 42 aq x_v12.length ar)::(CQ x_v13 a_words words c_words)) ic) ec=>?_
     have cu:Ag ax ([p]:List (List Int)) ([.slice ab p.length ad]:List Value):=⟨_,_,rfl,((Ad hv):rep ax (p:List Int) _),rfl⟩
     refine hK _ _ ?_
     obtain⟨x45,ex45,ag⟩:=Ap ag
     obtain⟨dh,g7⟩:=AQ ex45
     refine wl fun K hK=>?_
     refine AA 2 24 1 _ (x45.length) _ ([.slice ab p.length ad]:List Value) fz ec rfl rfl (by decide) rfl (by rfl) (by kernel_rfl) (by rfl) (by rfl) (Ag.len cu) (ec.rowCell (i:=4) rfl) cu.one (by rw [dh]; simp <;> omega) (by rw [dh]; exact g7) (by decide) fun ae af ex ie j1 fj (f0:Kn 81 [(a,0),(d,0),(g,0)] ((tS 45 ae x45.length af)::(tS 44 bb 1 1)::(tS 43 ab p.length ad)::(tS 42 aq x_v12.length ar)::(CQ x_v13 a_words words c_words)) ie) ed=>?_
     have b8:Ag ax x45 (ap++([.slice ab p.length ad]:List Value)):=by rw [dh]; exact Ag.append bl cu
     obtain rfl:ex=0:=Nat.le_zero.1 fj
     refine hK _ _ ?_
     refine Rk 5 1 ((tP 46 2 2)::(tS 45 ae x45.length af)::(CQ x_v13 a_words words c_words)) f0 ed fun ig f2=>?_
     refine wl fun K hK=>?_
     refine E3 2 2 (.c (.slice ae x45.length af)) (MH k x_v10 l e x_v11 f ae x45 af) f2 ed fun ev f3 a8=>hK _ _ ?_
     have f4:Kn 81 [(a,0),(d,0),(g,0)] (CQ x_v13 a_words words c_words) ig:=f3.kp
     refine wf (XT (Aa (Rk 0 5 ((tB 51 (decide (x_v13<((r_.buses.length:Nat):Int))))::(CQ x_v13 a_words words c_words)) f4 a8 fun jg c2=>?_)))
     refine wf (wC (decide (x_v13<((r_.buses.length:Nat):Int))) c2 (fun cq=>?_) (fun cq=>?_))
     ·
      rw [cq,XW] at ag
      refine Al (by kernel_rfl) ?_
      replace a8:=a8.drew
      refine Aq [18] [(a,0),(d,0),(g,0)] [⟨Ff q r_ x s y aa ac,some 28⟩,⟨F9,some 38⟩,⟨MH k x_v10 l e x_v11 f ae x45 af,some 38⟩] ?_
      refine Dr [0,1,2,3,4] (dn 4) ((tI 56 x_v13)::(tS 55 s r_.buses.length y)::(tS 53 k x_v10.length l)::(CQ x_v13 a_words words c_words)) c2 a8 fun jh f5=>?_
      obtain⟨x57,ex57,ag⟩:=Ap ag
      obtain⟨hs,hu,h4⟩:=Ak ex57
      obtain⟨u,z,i4,e6,h2,e9⟩:=be.get (by decide) h4
      obtain⟨_,_,rfl,rfl,⟨_,_,rfl,rfl,rfl⟩⟩:=h2
      have ee:=a8.addPlc (b:=u) (o:=z+(x_v13:Int).toNat*3) (cs:=(Lh x57)) (fun j c hj=>e9 j _ (Aj hj)) rfl (by kernel_rfl) (by kernel_rfl)
      refine A5 5 (x_v13) (Lh x57) (fun _ _ _ _ _ h=>h) rfl rfl (rfl) rfl (by decide) (by kernel_rfl) (by kernel_rfl) f5 a8.plOk (by rfl) (by rfl) (by rfl) e6 (by rfl) hs hu (by kernel_rfl) fun ih (f7:Kn 81 (EN a d g u z x_v13) ((tP 57 3 0)::(tI 56 x_v13)::(tS 55 s r_.buses.length y)::(tS 53 k x_v10.length l)::(CQ x_v13 a_words words c_words)) ih)=>?_
      refine Dr [6,7,8,9,10,11,15,16,17,19,20,21,22] [22,21,20,19,17,16,15,11,10,9,8,7,6,5,4,3,2,1,0] (KR x_v13 a_words words c_words e x_v11 f x57 k x_v10 l) f7 ee fun ji d6=>?_
      obtain⟨x64,ex64,ag⟩:=Ap ag
      obtain⟨x66,ex66,ag⟩:=Ap ag
      obtain⟨x75,ex75,ag⟩:=Ap ag
      obtain⟨x77,ex77,ag⟩:=Ap ag
      have hg:Ah ⟨w,h,AB⟩ ax (EN a d g u z x_v13) [⟨Ff q r_ x s y aa ac,some 28⟩,⟨F9,some 38⟩,⟨MH k x_v10 l e x_v11 f ae x45 af,some 38⟩,⟨Lh x57,none⟩] [⟨k,x_v10.length,l,3,1,an,0⟩,⟨e,x_v11.length,f,3,1,ao,0⟩,⟨ae,x45.length,af,29,1,ap++([.slice ab p.length ad]:List Value),0⟩,⟨ab,p.length,ad,3,1,au,(au:List Value).length⟩,⟨bb,1,1,29,1,([.slice ab p.length ad]:List Value),0⟩,⟨none,0,0,3,1,[],0⟩] (World.drew ev):=ee.nilRow 3 1
      have i6:Ag ax ([]:List Int) []:=Ag.nil
      have bm:Ah ⟨w,h,AB⟩ ax (EN a d g u z x_v13) [⟨Ff q r_ x s y aa ac,some 28⟩,⟨F9,some 38⟩,⟨MH k x_v10 l e x_v11 f ae x45 af,some 38⟩,⟨Lh x57,none⟩] [⟨k,x_v10.length,l,3,1,an,0⟩,⟨e,x_v11.length,f,3,1,ao,0⟩,⟨ae,x45.length,af,29,1,ap++([.slice ab p.length ad]:List Value),0⟩,⟨ab,p.length,ad,3,1,au,(au:List Value).length⟩,⟨bb,1,1,29,1,([.slice ab p.length ad]:List Value),0⟩,⟨none,0,0,3,1,[],0⟩,⟨none,0,0,3,1,[],0⟩] (World.drew ev):=hg.nilRow 3 1
      have i7:Ag ax ([]:List Int) []:=Ag.nil
      refine C4 (fun W=>∀ (av:Option Addr),∀ (aw:Nat),∀ (ci:List Value),∀ (dy:Option Addr),∀ (d1:Nat),∀ (du:List Value),∀ a' w',(∃ (dl:Array Value)(bj:Ae),a' = ⟨dl,[]⟩∧Kn 81 (EN a d g u z x_v13) (Qa r_ av x66 aw x_v13 a_words words c_words e x_v11 f) dl∧Ah ⟨w,h,AB⟩ bj (EN a d g u z x_v13) [⟨Ff q r_ x s y aa ac,some 28⟩,⟨F9,some 38⟩,⟨MH k x_v10 l e x_v11 f ae x45 af,some 38⟩,⟨Lh x57,none⟩] [⟨av,x66.length,aw,3,1,ci,0⟩,⟨e,x_v11.length,f,3,1,ao,0⟩,⟨ae,x45.length,af,29,1,ap++([.slice ab p.length ad]:List Value),0⟩,⟨ab,p.length,ad,3,1,au,(au:List Value).length⟩,⟨bb,1,1,29,1,([.slice ab p.length ad]:List Value),0⟩,⟨dy,1,d1,3,1,du,0⟩,⟨none,0,0,3,1,[],0⟩] w'∧Ae.le ax bj∧Ag bj x66 ci∧Ag bj ([x64]:List Int) du)→W (EN a d g u z x_v13) [⟨Ff q r_ x s y aa ac,some 28⟩,⟨F9,some 38⟩,⟨MH k x_v10 l e x_v11 f ae x45 af,some 38⟩,⟨Lh x57,none⟩] [26,14,13,12,18,22,21,20,19,17,16,15,11,10,9,8,7,6,5,4,3,2,1,0] a' w') ?_ (fun er=>?_)
      ·
       intro av aw ci dy d1 du
       rintro _ j2 ⟨dl,bj,rfl,f8,ef,cb,cv,i8⟩
       replace hr_words:=hr_words.mono cb
       refine Dl 23 fun K hK=>?_
       refine wc [.agg (Lg r_),.c (.slice a_words words.length c_words),.c (.int .i64 (IntKind.i64.wrap ((IntKind.i64.wrap (9*x_v13))+8)))] f8 ef (Gt a9 ef.has r_.turn ((Ab Ac Ac):rep bj r_.turn _) words hr_words (IntKind.i64.wrap ((IntKind.i64.wrap (9*x_v13))+8)) ex75) fun js cm j3 e2 cc eg=>?_
       replace cv:=cv.mono cc
       replace a4:=a4.mono (XU cb cc)
       replace b8:=b8.mono (XU cb cc)
       obtain rfl:=e2
       refine⟨.one (.c (.int .i64 x75)),rfl,fun ij (f9:Kn 81 (EN a d g u z x_v13) ((tI 75 x75)::(Qa r_ av x66 aw x_v13 a_words words c_words e x_v11 f)) ij)=>hK _ _ eg.plOk ?_⟩
       refine Dl 24 fun K hK=>?_
       refine B4 6 rfl rfl 3 1 [.int .i64 x75] f9 eg rfl rfl (by decide) (by kernel_rfl) (by rfl) (by rfl) rfl (by decide) fun dz ik j4 (ga:Kn 81 (EN a d g u z x_v13) ((tS 76 dz 1 1)::(tI 75 x75)::(Qa r_ av x66 aw x_v13 a_words words c_words e x_v11 f)) ik) db=>?_
       have cw:Ag cm ([x75]:List Int) ([.int .i64 x75]:List Value):=⟨_,_,rfl,(Ac:rep cm (x75:Int) _),rfl⟩
       refine hK _ _ db.plOk ?_
       refine Dl 25 fun K hK=>?_
       obtain⟨di,g8⟩:=AQ ex77
       refine AA 1 8 1 _ (x77.length) _ ([.int .i64 x75]:List Value) ga db rfl rfl (by decide) rfl (by rfl) (by kernel_rfl) (by rfl) (by rfl) (Ag.len cw) (db.rowCell (i:=6) rfl) cw.one (by rw [di]; simp <;> omega) (by rw [di]; exact g8) (by decide) fun bh bi ey il j5 fk (gc:Kn 81 (EN a d g u z x_v13) ((tS 77 bh x77.length bi)::(tS 76 dz 1 1)::(tI 75 x75)::(Qa r_ av x66 aw x_v13 a_words words c_words e x_v11 f)) il) eh=>?_
       have fa:Ag cm x77 (ao++([.int .i64 x75]:List Value)):=by rw [di]; exact Ag.append a4 cw
       obtain rfl:ey=0:=Nat.le_zero.1 fk
       refine hK _ _ eh.plOk ?_
       refine C7 27 rfl (by kernel_rfl) (by decide) (rfl) (by kernel_rfl) fun K hK=>?_
       refine E3 2 0 (.c (.slice av x66.length aw)) [.slice av x66.length aw,.slice e x_v11.length f,.slice ae x45.length af] gc eh fun j6 gd ej=>hK _ _ ?_
       refine Aq [18] (EN a d g u z x_v13) [⟨Ff q r_ x s y aa ac,some 28⟩,⟨F9,some 38⟩,⟨[.slice av x66.length aw,.slice e x_v11.length f,.slice ae x45.length af],some 38⟩,⟨Lh x57,none⟩] ?_
       refine Dr [28] [28,27,25,24,23,26,14,13,12,18,22,21,20,19,17,16,15,11,10,9,8,7,6,5,4,3,2,1,0] ((tP 79 2 1)::(tS 77 bh x77.length bi)::(CQ x_v13 a_words words c_words)) gd ej fun im gf=>?_
       refine C7 29 rfl (by kernel_rfl) (by decide) (rfl) (by kernel_rfl) fun K hK=>?_
       refine E3 2 1 (.c (.slice bh x77.length bi)) [.slice av x66.length aw,.slice bh x77.length bi,.slice ae x45.length af] gf ej fun j7 gg ek=>hK _ _ ?_
       refine Aq [18] (EN a d g u z x_v13) [⟨Ff q r_ x s y aa ac,some 28⟩,⟨F9,some 38⟩,⟨[.slice av x66.length aw,.slice bh x77.length bi,.slice ae x45.length af],some 38⟩,⟨Lh x57,none⟩] ?_
       have gh:Kn 81 (EN a d g u z x_v13) (CQ x_v13 a_words words c_words) im:=gg.kp
       refine A0 (by kernel_rfl) (Aa (Rk 0 3 [tI 6 (IntKind.i64.wrap (x_v13+1)),tP 5 2 0,tP 4 1 0,tP 2 0 0,tS 1 a_words words.length c_words] gh ek fun jk gi=>?_))
       refine wf ?_
       exact XY a9 ⟨Nat.lt_succ_self _,XY x66 ⟨x77,x45,IntKind.i64.wrap (x_v13+1),av,aw,ci,bh,bi,ao++([.int .i64 x75]:List Value),ae,af,ap++([.slice ab p.length ad]:List Value),_,_,rfl,(gi.keep [6,5,4,2,1] (by rfl)).cut 3 (by kernel_rfl),(ek.cutRw 3).cutPl 3 (by kernel_rfl),XU bc (XU a6 (XU a3 (XU cb cc))),cv,fa,b8,ag⟩⟩
      refine C4 (fun W=>∀ (bq:Option Addr),∀ (bt:Nat),∀ (bf:List Value),∀ a' w',(∃ (dm:Array Value)(bu:Ae),a' = ⟨dm,[]⟩∧Kn 81 (EN a d g u z x_v13) ((tA 70 (Lg r_))::(tS 65 bq 1 bt)::(Qc x_v13 a_words words c_words e x_v11 f k x_v10 l)) dm∧Ah ⟨w,h,AB⟩ bu (EN a d g u z x_v13) [⟨Ff q r_ x s y aa ac,some 28⟩,⟨F9,some 38⟩,⟨MH k x_v10 l e x_v11 f ae x45 af,some 38⟩,⟨Lh x57,none⟩] [⟨k,x_v10.length,l,3,1,an,0⟩,⟨e,x_v11.length,f,3,1,ao,0⟩,⟨ae,x45.length,af,29,1,ap++([.slice ab p.length ad]:List Value),0⟩,⟨ab,p.length,ad,3,1,au,(au:List Value).length⟩,⟨bb,1,1,29,1,([.slice ab p.length ad]:List Value),0⟩,⟨bq,1,bt,3,1,bf,0⟩,⟨none,0,0,3,1,[],0⟩] w'∧Ae.le ax bu∧Ag bu ([x64]:List Int) bf)→W (EN a d g u z x_v13) [⟨Ff q r_ x s y aa ac,some 28⟩,⟨F9,some 38⟩,⟨MH k x_v10 l e x_v11 f ae x45 af,some 38⟩,⟨Lh x57,none⟩] [13,12,18,22,21,20,19,17,16,15,11,10,9,8,7,6,5,4,3,2,1,0] a' w') ?_ (fun es=>?_)
      ·
       intro bq bt bf
       rintro _ j8 ⟨dm,bu,rfl,gk,el,ea,b9⟩
       replace a1:=a1.mono ea
       refine Dl 14 fun K hK=>?_
       obtain⟨dj,g9⟩:=AQ ex66
       refine AA 0 8 1 _ (x66.length) _ bf gk el rfl rfl (by decide) rfl (by rfl) (by kernel_rfl) (by rfl) (by rfl) (Ag.len b9) (el.rowCell (i:=5) rfl) b9.one (by rw [dj]; simp <;> omega) (by rw [dj]; exact g9) (by decide) fun cj ck ez io j9 fl (gl:Kn 81 (EN a d g u z x_v13) ((tS 66 cj x66.length ck)::(tA 70 (Lg r_))::(tS 65 bq 1 bt)::(Qc x_v13 a_words words c_words e x_v11 f k x_v10 l)) io) dc=>?_
       have fb:Ag bu x66 (an++bf):=by rw [dj]; exact Ag.append a1 b9
       obtain rfl:ez=0:=Nat.le_zero.1 fl
       refine hK _ _ dc.plOk ?_
       refine Dr [26] [26,14,13,12,18,22,21,20,19,17,16,15,11,10,9,8,7,6,5,4,3,2,1,0] ((tP 78 2 0)::(tS 66 cj x66.length ck)::(tA 70 (Lg r_))::(tI 74 (IntKind.i64.wrap ((IntKind.i64.wrap (9*x_v13))+8)))::(tS 71 a_words words.length c_words)::(tS 68 e x_v11.length f)::(CQ x_v13 a_words words c_words)) gl dc fun jl gm=>?_
       refine Bl [26,14,13,12,18,22,21,20,19,17,16,15,11,10,9,8,7,6,5,4,3,2,1,0] (by kernel_rfl) (by rfl) (er cj ck (an++bf) bq bt bf _ _ ?_)
       exact XY _ ⟨_,rfl,gm.kp,dc,ea,fb,b9⟩
      refine C4 (fun W=>∀ a' w',(∃ (dp:Array Value)(bv:Ae),a' = ⟨dp,[]⟩∧Kn 81 (EN a d g u z x_v13) ((tA 70 (Lg r_))::(tI 64 x64)::(Qc x_v13 a_words words c_words e x_v11 f k x_v10 l)) dp∧Ah ⟨w,h,AB⟩ bv (EN a d g u z x_v13) [⟨Ff q r_ x s y aa ac,some 28⟩,⟨F9,some 38⟩,⟨MH k x_v10 l e x_v11 f ae x45 af,some 38⟩,⟨Lh x57,none⟩] [⟨k,x_v10.length,l,3,1,an,0⟩,⟨e,x_v11.length,f,3,1,ao,0⟩,⟨ae,x45.length,af,29,1,ap++([.slice ab p.length ad]:List Value),0⟩,⟨ab,p.length,ad,3,1,au,(au:List Value).length⟩,⟨bb,1,1,29,1,([.slice ab p.length ad]:List Value),0⟩,⟨none,0,0,3,1,[],0⟩,⟨none,0,0,3,1,[],0⟩] w'∧Ae.le ax bv)→W (EN a d g u z x_v13) [⟨Ff q r_ x s y aa ac,some 28⟩,⟨F9,some 38⟩,⟨MH k x_v10 l e x_v11 f ae x45 af,some 38⟩,⟨Lh x57,none⟩] [12,18,22,21,20,19,17,16,15,11,10,9,8,7,6,5,4,3,2,1,0] a' w') ?_ (fun et=>?_)
      ·
       rintro _ ka ⟨dp,bv,rfl,gn,hn,hb⟩
       refine Dl 13 fun K hK=>?_
       refine B4 5 rfl rfl 3 1 [.int .i64 x64] gn hn rfl rfl (by decide) (by kernel_rfl) (by rfl) (by rfl) rfl (by decide) fun d0 ip kb (go:Kn 81 (EN a d g u z x_v13) ((tS 65 d0 1 1)::(tA 70 (Lg r_))::(tI 64 x64)::(Qc x_v13 a_words words c_words e x_v11 f k x_v10 l)) ip) em=>?_
       have fd:Ag bv ([x64]:List Int) ([.int .i64 x64]:List Value):=⟨_,_,rfl,(Ac:rep bv (x64:Int) _),rfl⟩
       refine hK _ _ em.plOk ?_
       refine Bl [13,12,18,22,21,20,19,17,16,15,11,10,9,8,7,6,5,4,3,2,1,0] (by kernel_rfl) (by rfl) (es d0 1 ([.int .i64 x64]:List Value) _ _ ?_)
       exact XY _ ⟨_,rfl,go.kp,em,hb,fd⟩
      refine FY 12 18 rfl rfl (by kernel_rfl) (by decide) (rfl) (rfl) (fun K hK=>?_) (fun K hK=>?_)
      ·
       refine wc [.agg (S5 x57),.c (.slice a_words words.length c_words),.c (.int .i64 (IntKind.i64.wrap ((IntKind.i64.wrap (9*x_v13))+7)))] d6 bm (Gt a9 bm.has x57.tm ((Ab Ac Ac):rep ax x57.tm _) words hr_words (IntKind.i64.wrap ((IntKind.i64.wrap (9*x_v13))+7)) ex64) fun jt cn kc e3 cd bz=>?_
       replace a1:=a1.mono cd
       obtain rfl:=e3
       refine⟨.one (.c (.int .i64 x64)),rfl,fun iq (d7:Kn 81 (EN a d g u z x_v13) ((tI 64 x64)::(KR x_v13 a_words words c_words e x_v11 f x57 k x_v10 l)) iq)=>hK _ _ bz.plOk ?_⟩
       refine FY 13 18 rfl rfl (by kernel_rfl) (by decide) (rfl) (rfl) (fun K hK=>?_) (fun K hK=>?_)
       ·
        refine B4 5 rfl rfl 3 1 [.int .i64 x64] d7 bz rfl rfl (by decide) (by kernel_rfl) (by rfl) (by rfl) rfl (by decide) fun br ir kd (d8:Kn 81 (EN a d g u z x_v13) ((tS 65 br 1 1)::(tI 64 x64)::(KR x_v13 a_words words c_words e x_v11 f x57 k x_v10 l)) ir) bn=>?_
        have bx:Ag cn ([x64]:List Int) ([.int .i64 x64]:List Value):=⟨_,_,rfl,(Ac:rep cn (x64:Int) _),rfl⟩
        refine hK _ _ bn.plOk ?_
        refine FY 14 18 rfl rfl (by kernel_rfl) (by decide) (rfl) (rfl) (fun K hK=>?_) (fun K hK=>?_)
        ·
         obtain⟨dk,ha⟩:=AQ ex66
         refine AA 0 8 1 _ (x66.length) _ ([.int .i64 x64]:List Value) d8 bn rfl rfl (by decide) rfl (by rfl) (by kernel_rfl) (by rfl) (by rfl) (Ag.len bx) (bn.rowCell (i:=5) rfl) bx.one (by rw [dk]; simp <;> omega) (by rw [dk]; exact ha) (by decide) fun b4 b6 e0 iu ke fm (gp:Kn 81 (EN a d g u z x_v13) ((tS 66 b4 x66.length b6)::(tS 65 br 1 1)::(tI 64 x64)::(KR x_v13 a_words words c_words e x_v11 f x57 k x_v10 l)) iu) b0=>?_
         have ff:Ag cn x66 (an++([.int .i64 x64]:List Value)):=by rw [dk]; exact Ag.append a1 bx
         obtain rfl:e0=0:=Nat.le_zero.1 fm
         refine hK _ _ b0.plOk ?_
         refine Dr [26] [26,14,13,12,22,21,20,19,17,16,15,11,10,9,8,7,6,5,4,3,2,1,0] ((tP 78 2 0)::(tS 66 b4 x66.length b6)::(tI 74 (IntKind.i64.wrap ((IntKind.i64.wrap (9*x_v13))+8)))::(tS 71 a_words words.length c_words)::(tP 69 0 1)::(tS 68 e x_v11.length f)::(CQ x_v13 a_words words c_words)) gp b0 fun jm gq=>?_
         refine Dl 18 fun K hK=>?_
         refine B7 gq b0.plOk rfl (by decide) (by kernel_rfl) fun iv (gr:Kn 81 (EN a d g u z x_v13) ((tA 70 (Lg r_))::(tP 78 2 0)::(tS 66 b4 x66.length b6)::(tI 74 (IntKind.i64.wrap ((IntKind.i64.wrap (9*x_v13))+8)))::(tS 71 a_words words.length c_words)::(tP 69 0 1)::(tS 68 e x_v11.length f)::(CQ x_v13 a_words words c_words)) iv)=>hK _ _ b0.plOk ?_
         refine Bl [26,14,13,12,18,22,21,20,19,17,16,15,11,10,9,8,7,6,5,4,3,2,1,0] (by kernel_rfl) (by rfl) (er b4 b6 (an++([.int .i64 x64]:List Value)) br 1 ([.int .i64 x64]:List Value) _ _ ?_)
         exact XY _ ⟨_,rfl,gr.kp,b0,cd,ff,bx⟩
        ·
         refine B7 d8 bn.plOk rfl (by decide) (by kernel_rfl) fun iw (gs:Kn 81 (EN a d g u z x_v13) ((tA 70 (Lg r_))::(tS 65 br 1 1)::(tI 64 x64)::(KR x_v13 a_words words c_words e x_v11 f x57 k x_v10 l)) iw)=>hK _ _ bn.plOk ?_
         refine Bl [13,12,18,22,21,20,19,17,16,15,11,10,9,8,7,6,5,4,3,2,1,0] (by kernel_rfl) (by rfl) (es br 1 ([.int .i64 x64]:List Value) _ _ ?_)
         exact XY _ ⟨_,rfl,gs.kp,bn,cd,bx⟩
       ·
        refine B7 d7 bz.plOk rfl (by decide) (by kernel_rfl) fun ix (gu:Kn 81 (EN a d g u z x_v13) ((tA 70 (Lg r_))::(tI 64 x64)::(KR x_v13 a_words words c_words e x_v11 f x57 k x_v10 l)) ix)=>hK _ _ bz.plOk ?_
        refine Bl [12,18,22,21,20,19,17,16,15,11,10,9,8,7,6,5,4,3,2,1,0] (by kernel_rfl) (by rfl) (et _ _ ?_)
        exact XY _ ⟨_,rfl,gu.kp,bz,cd⟩
      ·
       refine B7 d6 bm.plOk rfl (by decide) (by kernel_rfl) fun iy (gv:Kn 81 (EN a d g u z x_v13) ((tA 70 (Lg r_))::(KR x_v13 a_words words c_words e x_v11 f x57 k x_v10 l)) iy)=>hK _ _ bm.plOk ?_
       refine Dl 12 fun K hK=>?_
       refine wc [.agg (S5 x57),.c (.slice a_words words.length c_words),.c (.int .i64 (IntKind.i64.wrap ((IntKind.i64.wrap (9*x_v13))+7)))] gv bm (Gt a9 bm.has x57.tm ((Ab Ac Ac):rep ax x57.tm _) words hr_words (IntKind.i64.wrap ((IntKind.i64.wrap (9*x_v13))+7)) ex64) fun ju i5 kf e4 hc en=>?_
       obtain rfl:=e4
       refine⟨.one (.c (.int .i64 x64)),rfl,fun iz (gw:Kn 81 (EN a d g u z x_v13) ((tI 64 x64)::(tA 70 (Lg r_))::(KR x_v13 a_words words c_words e x_v11 f x57 k x_v10 l)) iz)=>hK _ _ en.plOk ?_⟩
       refine Bl [12,18,22,21,20,19,17,16,15,11,10,9,8,7,6,5,4,3,2,1,0] (by kernel_rfl) (by rfl) (et _ _ ?_)
       exact XY _ ⟨_,rfl,gw.kp,en,hc⟩
     ·
      rw [cq,XV] at ag
      refine wp_skip (Aa (Rk 0 3 [tI 6 (IntKind.i64.wrap (x_v13+1)),tP 5 2 0,tP 4 1 0,tP 2 0 0,tS 1 a_words words.length c_words] c2 a8 fun jn gx=>?_))
      refine wf ?_
      exact XY a9 ⟨Nat.lt_succ_self _,XY x_v10 ⟨x_v11,x45,IntKind.i64.wrap (x_v13+1),k,l,an,e,f,ao,ae,af,ap++([.slice ab p.length ad]:List Value),_,_,rfl,gx.kp,a8.cutRw 3,XU bc (XU a6 a3),a1,a4,b8,ag⟩⟩
   ·
    rw [cr,XV] at ag
    refine wp_exit ?_
    obtain rfl:=XZ ag
    exact XY k ⟨l,an,e,f,ao,aq,ar,ap,_,_,rfl,c3.kp,b1,bc,a1,a4,bl⟩
 ·
  rintro _ kg ⟨ah,ak,a7,ai,al,ba,aj,am,bg,dq,bk,rfl,gy,eo,i9,cx,cy,cz⟩
  refine XT (Aa (Rk 0 1 [tA 80 (Mv ah m ak ai al aj am),tP 4 1 0] gy eo fun i0 gz=>?_))
  refine wl fun K hK=>?_
  refine E3 1 0 (.agg (Mv ah m ak ai al aj am)) (Mv ah m ak ai al aj am) gz eo fun dw g0 ep=>hK _ _ ?_
  have g1:Kn 81 [(a,0),(d,0),(g,0)] [tP 4 1 0] i0:=g0.kp
  refine wf (wp_ret ?_)
  obtain⟨d4,c4,hy,cf⟩:=ep.settle (i:=0) rfl
  replace cx:=cx.mono c4
  replace cf:Ah ⟨w,h,AB⟩ d4 [(a,0),(d,0),(g,0)] [⟨Ff q r_ x s y aa ac,some 28⟩,⟨Mv ah m ak ai al aj am,some 38⟩,⟨Mv ah m ak ai al aj am,some 38⟩] [⟨ah,m.1.length,ak,3,1,a7,(a7:List Value).length⟩,⟨ai,m.2.1.length,al,3,1,ba,0⟩,⟨aj,m.2.2.length,am,29,1,bg,0⟩] dw:=cf
  have de:Az d4 ah ak m.1:=⟨_,cx,hy,ep.rowCap (i:=0) rfl⟩
  obtain⟨d5,c5,hz,cg⟩:=cf.settle (i:=1) rfl
  replace cy:=cy.mono (XU c4 c5)
  replace cg:Ah ⟨w,h,AB⟩ d5 [(a,0),(d,0),(g,0)] [⟨Ff q r_ x s y aa ac,some 28⟩,⟨Mv ah m ak ai al aj am,some 38⟩,⟨Mv ah m ak ai al aj am,some 38⟩] [⟨ah,m.1.length,ak,3,1,a7,(a7:List Value).length⟩,⟨ai,m.2.1.length,al,3,1,ba,(ba:List Value).length⟩,⟨aj,m.2.2.length,am,29,1,bg,0⟩] dw:=cg
  have df:Az d5 ai al m.2.1:=⟨_,cy,hz,cf.rowCap (i:=1) rfl⟩
  obtain⟨co,c6,h0,dd⟩:=cg.settle (i:=2) rfl
  replace de:=de.mono (XU c5 c6)
  replace df:=df.mono c6
  replace cz:=cz.mono (XU (XU c4 c5) c6)
  replace dd:Ah ⟨w,h,AB⟩ co [(a,0),(d,0),(g,0)] [⟨Ff q r_ x s y aa ac,some 28⟩,⟨Mv ah m ak ai al aj am,some 38⟩,⟨Mv ah m ak ai al aj am,some 38⟩] [⟨ah,m.1.length,ak,3,1,a7,(a7:List Value).length⟩,⟨ai,m.2.1.length,al,3,1,ba,(ba:List Value).length⟩,⟨aj,m.2.2.length,am,29,1,bg,(bg:List Value).length⟩] dw:=dd
  have hw:Az co aj am m.2.2:=⟨_,cz,h0,cg.rowCap (i:=2) rfl⟩
  obtain rfl:=XZ H
  exact rt (.one (.agg (Mv ah m ak ai al aj am))) g1 dd ⟨_,rfl,((Ab (Ad de) (Ab (Ad df) (Ad hw))):rep co ((Aw.mk m.1 m.2.1 m.2.2):Aw) _)⟩
end Go.Proofs.YtokchpjijlebiaaGreat
