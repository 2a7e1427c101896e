/- Each call computes its plain function. -/
import Derived.Test.YtokchpjijlebiaaProg
import Derived.Test.YtokchpjijlebiaaBGP0
import Derived.Test.YtokchpjijlebiaaBGWT
import Derived.Test.YtokchpjijlebiaaBGWV
import Derived.Test.YtokchpjijlebiaaBGWW
set_option linter.all false
namespace Go.Proofs.Ytokchpjijlebiaa
open Go Go.RowKit
open Rep (rep)
open KRep (kv)
open VRep (rv)
abbrev TP (b:Option Addr) (w_:B3) (f:Nat) (d:Option Addr) (g:Nat) (e:Option Addr) (k:Nat):List SC:=[.slice b w_.route.legs.length f,.int .i64 w_.route.turn.lo,.int .i64 w_.route.turn.hi,.slice d w_.route.buses.length g,.slice e w_.route.spares.length k,.int .i64 w_.route.unit,.int .i64 w_.route.gap,.int .i64 w_.route.fr,.int .i64 w_.route.to_]
abbrev Hv (b:Option Addr) (w_:B3) (f:Nat) (d:Option Addr) (g:Nat) (e:Option Addr) (k:Nat) (l:Option Addr) (u:Nat) (m:Option Addr) (x:Nat) (o:Option Addr) (y:Nat):List SC:=[.slice b w_.route.legs.length f,.int .i64 w_.route.turn.lo,.int .i64 w_.route.turn.hi,.slice d w_.route.buses.length g,.slice e w_.route.spares.length k,.int .i64 w_.route.unit,.int .i64 w_.route.gap,.int .i64 w_.route.fr,.int .i64 w_.route.to_,.slice l w_.acts.holds.length u,.slice m w_.acts.turns.length x,.slice o w_.acts.spares.length y]
abbrev Rt (q:Option Addr) (x_v10:List Int) (aa:Nat) (x_v11:Int) (x6:List (EY Int Rg)) (p:Option Addr) (z:Nat):TM:=[tS 12 q x_v10.length aa,tI 8 x_v11,tI 7 ((x6.length:Nat):Int),tS 6 p x6.length z,tP 1 0 0]
set_option maxRecDepth 100000 in
set_option maxHeartbeats 4000000 in
theorem Fo (n:Nat) {h:Ae} {w:World} (hh:Dn h w) (w_:B3) {cs_w_:List Value} (hx_w_:rep h w_ cs_w_) {r:List Int} (H:BY n w_=some r) :
  Calls Try.prog 58 #[.agg cs_w_.toArray] w (Dp (fun h v=>∃ a c,v=.slice a r.length c∧A6 h a c r) h w):=by
 obtain⟨_,_,rfl,⟨_,_,rfl,⟨b,f,rfl,am⟩,⟨_,_,rfl,⟨_,_,rfl,rfl,rfl⟩,⟨_,_,rfl,⟨d,g,rfl,an⟩,⟨_,_,rfl,⟨e,k,rfl,ao⟩,⟨_,_,rfl,rfl,⟨_,_,rfl,rfl,⟨_,_,rfl,rfl,rfl⟩⟩⟩⟩⟩⟩⟩,⟨_,_,rfl,⟨l,u,rfl,au⟩,⟨_,_,rfl,⟨m,x,rfl,av⟩,⟨o,y,rfl,aw⟩⟩⟩⟩:=hx_w_
 refine enter 22 [.agg (Hv b w_ f d g e k l u m x o y)] Try.func58 rfl rfl rfl rfl fun t hk=>?_
 have hm:=Ah.begin h w hh
 unfold BY at H
 refine XT (Aa (wl fun K hK=>?_))
 refine wb (.agg (Hv b w_ f d g e k l u m x o y)) hk hm fun s ct c0 (b5:Kn 22 [(s,0)] [tP 1 0 0,tA 0 (Hv b w_ f d g e k l u m x o y)] ct) (a2:Ah ⟨w,h,Aj⟩ h [(s,0)] [⟨Hv b w_ f d g e k l u m x o y,some 115⟩] [] c0)=>hK _ _ ?_
 refine Rk 1 1 [tS 2 none 0 0,tP 1 0 0] b5 a2 fun da b6=>?_
 refine wf (XT (XT (Aa (Rk 0 1 [tA 5 (Hv b w_ f d g e k l u m x o y),tS 2 none 0 0,tP 1 0 0] b6 a2 fun db b7=>?_))))
 obtain⟨x6,ex6,H⟩:=Aq H
 refine wl fun K hK=>?_
 refine wc [.agg (Hv b w_ f d g e k l u m x o y)] b7 a2 (Fk n a2.has w_ ((Ab (Ab (Ad am) (Ab (Ab Ac Ac) (Ab (Ad an) (Ab (Ad ao) (Ab Ac (Ab Ac (Ab Ac Ac))))))) (Ab (Ad au) (Ab (Ad av) (Ad aw)))):rep h w_ _) ex6) fun dh az c1 br al bo=>?_
 replace am:=am.mono al
 replace an:=an.mono al
 replace ao:=ao.mono al
 replace au:=au.mono al
 replace av:=av.mono al
 replace aw:=aw.mono al
 obtain⟨p,z,rfl,bf⟩:=br
 refine⟨.one (.c (.slice p x6.length z)),rfl,fun cu (b8:Kn 22 [(s,0)] [tS 6 p x6.length z,tA 5 (Hv b w_ f d g e k l u m x o y),tS 2 none 0 0,tP 1 0 0] cu)=>hK _ _ ?_⟩
 refine Rk 2 2 [tI 8 0,tI 7 ((x6.length:Nat):Int),tS 6 p x6.length z,tS 2 none 0 0,tP 1 0 0] b8 bo fun dc b9=>?_
 refine wf ?_
 have ci:Ah ⟨w,h,Aj⟩ az [(s,0)] [⟨Hv b w_ f d g e k l u m x o y,some 115⟩] [⟨none,0,0,3,1,[],0⟩] c1:=bo.nilRow 3 1
 have bv:Ag az ([]:List Int) []:=Ag.nil
 obtain⟨af,bj,H⟩:=Aq H
 refine Av (fun a' w'=>∃ (ag:Option Addr)(ai:Nat)(ax:List Value)(bh:Array Value)(a0:Ae),a' = ⟨bh,[]⟩∧Kn 22 [(s,0)] [tS 2 ag af.length ai] bh∧Ah ⟨w,h,Aj⟩ a0 [(s,0)] [⟨Hv b w_ f d g e k l u m x o y,some 115⟩] [⟨ag,af.length,ai,3,1,ax,0⟩] w'∧Ae.le az a0∧Ag a0 af ax) ?_ ?_
 ·
  refine wp_block ?_
  refine Ar (fun cp a' w'=>∃ (x_v10:List Int)(x_v11:Int)(q:Option Addr)(aa:Nat)(ad:List Value)(bi:Array Value)(ak:Ae),a' = ⟨bi,[]⟩∧Kn 22 [(s,0)] [tI 8 x_v11,tI 7 ((x6.length:Nat):Int),tS 6 p x6.length z,tS 2 q x_v10.length aa,tP 1 0 0] bi∧Ah ⟨w,h,Aj⟩ ak [(s,0)] [⟨Hv b w_ f d g e k l u m x o y,some 115⟩] [⟨q,x_v10.length,aa,3,1,ad,0⟩] w'∧Ae.le az ak∧Ag ak x_v10 ad∧Bn cp w_ x6 x_v10 x_v11=some af) n ?_ ?_
  ·
   exact XY ([]:List Int) ⟨0,none,0,[],_,_,rfl,b9.kp,ci,Ae.le_refl _,bv,bj⟩
  ·
   rintro a4 _ c2 ⟨x_v10,x_v11,q,aa,ad,bi,ak,rfl,ca,be,ac,a1,ab⟩
   clear bj
   obtain _ | a4:=a4
   ·
    rw [Bn] at ab; cases ab
   rw [Bn] at ab
   replace am:=am.mono ac
   replace an:=an.mono ac
   replace ao:=ao.mono ac
   replace au:=au.mono ac
   replace av:=av.mono ac
   replace aw:=aw.mono ac
   replace bf:=bf.mono ac
   refine XT (Aa (Rk 0 1 [tB 9 (decide (x_v11<((x6.length:Nat):Int))),tI 8 x_v11,tI 7 ((x6.length:Nat):Int),tS 6 p x6.length z,tS 2 q x_v10.length aa,tP 1 0 0] ca be fun dd a9=>?_))
   refine wf (XT (wC (decide (x_v11<((x6.length:Nat):Int))) a9 (fun a6=>?_) (fun a6=>?_)))
   ·
    rw [a6,XW] at ab
    refine wp_skip (XT (wp_block (XT (Aa ?_))))
    obtain⟨x10,ex10,ab⟩:=Aq ab
    obtain⟨cj,ck,co⟩:=Ai ex10
    obtain⟨ah,aj,c4,bt,cn,bw⟩:=bf.get (by decide) co
    obtain⟨ae,c5,c3,rfl,a5,bq⟩:=cn
    have a3:Ah ⟨w,h,Aj⟩ ak [(s,0),(ah,aj+(x_v11:Int).toNat*1)] [⟨Hv b w_ f d g e k l u m x o y,some 115⟩,⟨[.map (some ae)],none⟩] [⟨q,x_v10.length,aa,3,1,ad,0⟩] c2:=be.addPlc (cs:=[.map (some ae)]) (fun j c hj=>bw j _ (Al hj)) rfl (by kernel_rfl) (by kernel_rfl)
    refine Bc 0 (x_v11) rfl rfl (rfl) rfl (by decide) a9 (by rfl) (by rfl) (by rfl) bt (by rfl) cj ck (by kernel_rfl) fun cv (cb:Kn 22 [(s,0),(ah,aj+(x_v11:Int).toNat*1)] [tP 10 1 0,tB 9 (decide (x_v11<((x6.length:Nat):Int))),tI 8 x_v11,tI 7 ((x6.length:Nat):Int),tS 6 p x6.length z,tS 2 q x_v10.length aa,tP 1 0 0] cv)=>?_
    refine Rk 1 2 [(4,.one (.c (.map (some ae)))),tI 8 x_v11,tI 7 ((x6.length:Nat):Int),tS 6 p x6.length z,tS 2 q x_v10.length aa,tP 1 0 0] cb a3 fun de cc=>?_
    refine wf (Aa (Rk 0 4 ((15,.one (.c (.map (some ae))))::(tA 14 (TP b w_ f d g e k))::(Rt q x_v10 aa x_v11 x6 p z)) cc a3 fun df cd=>?_))
    obtain⟨x16,ex16,ab⟩:=Aq ab
    refine wl fun K hK=>?_
    refine wc [.agg (TP b w_ f d g e k),.c (.map (some ae))] cd a3 (Fm a4 a3.has w_.route ((Ab (Ad am) (Ab (Ab Ac Ac) (Ab (Ad an) (Ab (Ad ao) (Ab Ac (Ab Ac (Ab Ac Ac))))))):rep ak w_.route _) x10 a5 bq ex16) fun di ar dj bs ba bp=>?_
    replace a1:=a1.mono ba
    replace a5:=ba _ _ _ a5
    obtain⟨bl,rfl⟩:=bs
    refine⟨.one (.agg [.int .i64 bl,.int .i64 x16]),rfl,fun cw (ce:Kn 22 [(s,0),(ah,aj+(x_v11:Int).toNat*1)] ((tA 16 [.int .i64 bl,.int .i64 x16])::(15,.one (.c (.map (some ae))))::(tA 14 (TP b w_ f d g e k))::(Rt q x_v10 aa x_v11 x6 p z)) cw)=>hK _ _ ?_⟩
    refine Rk 5 1 ((tI 17 x16)::(Rt q x_v10 aa x_v11 x6 p z)) ce bp fun dg cf=>?_
    refine wl fun K hK=>?_
    refine wS 3 1 [.int .i64 x16] cf bp fun ay cq cx (bz:Kn 22 [(s,0),(ah,aj+(x_v11:Int).toNat*1)] ((tS 18 ay 1 1)::(tI 17 x16)::(Rt q x_v10 aa x_v11 x6 p z)) cq) (bn:Ah ⟨w,h,Aj⟩ ar [(s,0),(ah,aj+(x_v11:Int).toNat*1)] [⟨Hv b w_ f d g e k l u m x o y,some 115⟩,⟨[.map (some ae)],none⟩] [⟨q,x_v10.length,aa,3,1,ad,0⟩,⟨ay,1,1,3,1,([.int .i64 x16]:List Value),0⟩] cx)=>?_
    have a7:Ag ar ([x16]:List Int) ([.int .i64 x16]:List Value):=⟨_,_,rfl,(Ac:rep ar (x16:Int) _),rfl⟩
    refine hK _ _ ?_
    obtain⟨x19,ex19,ab⟩:=Aq ab
    obtain⟨bg,cg⟩:=A8 ex19
    refine wl fun K hK=>?_
    refine A3 0 8 1 _ (x19.length) _ ([.int .i64 x16]:List Value) bz bn rfl rfl (by decide) rfl (by rfl) (by kernel_rfl) (by rfl) (by rfl) (Ag.len a7) (bn.rowCell (i:=1) rfl) a7.one (by rw [bg]; simp) (by rw [bg]; exact cg) (by decide) fun ap aq bk cr cy bx (b0:Kn 22 [(s,0),(ah,aj+(x_v11:Int).toNat*1)] ((tS 19 ap x19.length aq)::(tS 18 ay 1 1)::(tI 17 x16)::(Rt q x_v10 aa x_v11 x6 p z)) cr) (bb:Ah ⟨w,h,Aj⟩ ar [(s,0),(ah,aj+(x_v11:Int).toNat*1)] [⟨Hv b w_ f d g e k l u m x o y,some 115⟩,⟨[.map (some ae)],none⟩] [⟨ap,x19.length,aq,3,1,ad++([.int .i64 x16]:List Value),bk⟩,⟨ay,1,1,3,1,([.int .i64 x16]:List Value),0⟩] cy)=>?_
    have bu:Ag ar x19 (ad++([.int .i64 x16]:List Value)):=by rw [bg]; exact Ag.append a1 a7
    obtain rfl:bk=0:=Nat.le_zero.1 bx
    refine hK _ _ ?_
    refine Rk 8 1 [tS 2 ap x19.length aq,tI 8 x_v11,tI 7 ((x6.length:Nat):Int),tS 6 p x6.length z,tP 1 0 0] b0 bb fun c7 b1=>?_
    refine wf (Aa (Rk 0 2 [tI 8 (IntKind.i64.wrap (x_v11+1)),tS 2 ap x19.length aq,tI 7 ((x6.length:Nat):Int),tS 6 p x6.length z,tP 1 0 0] b1 bb fun c8 b2=>?_))
    refine wf ?_
    exact XY a4 ⟨Nat.lt_succ_self _,XY x19 ⟨IntKind.i64.wrap (x_v11+1),ap,aq,ad++([.int .i64 x16]:List Value),_,_,rfl,(b2.keep [8,7,6,2,1] (by rfl)).cut 1 (by kernel_rfl),(bb.cutRw 1).cutPl 1 (by kernel_rfl),XU ac ba,bu,ab⟩⟩
   ·
    rw [a6,XV] at ab
    refine wp_exit ?_
    obtain rfl:=XZ ab
    exact XY q ⟨aa,ad,_,_,rfl,a9.kp,be,ac,a1⟩
 ·
  rintro _ cz ⟨ag,ai,ax,bh,a0,rfl,b3,bc,c6,a8⟩
  refine XT (Aa (Rk 0 2 [tS 2 ag af.length ai] b3 bc fun c9 b4=>?_))
  refine wf (wp_ret ?_)
  obtain⟨bm,ch,cm,bd⟩:=bc.settle (i:=0) rfl
  replace a8:=a8.mono ch
  replace bd:Ah ⟨w,h,Aj⟩ bm [(s,0)] [⟨Hv b w_ f d g e k l u m x o y,some 115⟩] [⟨ag,af.length,ai,3,1,ax,(ax:List Value).length⟩] cz:=bd
  have cl:A6 bm ag ai af:=⟨_,a8,cm,bc.rowCap (i:=0) rfl⟩
  obtain rfl:=XZ H
  exact rt (.one (.c (.slice ag af.length ai))) b4 bd ⟨_,_,rfl,cl⟩
abbrev TQ:List SC:=[.slice none 0 0,.int .i64 0,.int .i64 0,.slice none 0 0,.slice none 0 0,.int .i64 0,.int .i64 0,.int .i64 0,.int .i64 0,.slice none 0 0,.slice none 0 0,.slice none 0 0]
abbrev EF (a:Option Addr) (r_:Af) (g:Nat) (e:Option Addr) (i:Nat) (f:Option Addr) (k:Nat):List SC:=[.slice a r_.legs.length g,.int .i64 r_.turn.lo,.int .i64 r_.turn.hi,.slice e r_.buses.length i,.slice f r_.spares.length k,.int .i64 r_.unit,.int .i64 r_.gap,.int .i64 r_.fr,.int .i64 r_.to_]
abbrev Gl (d:Ap):List SC:=[.int .i64 d.holds.a0,.int .i64 d.holds.a1,.int .i64 d.holds.a2,.int .i64 d.holds.a3,.int .i64 d.turns.a0,.int .i64 d.turns.a1,.int .i64 d.turns.a2,.int .i64 d.turns.a3,.bool d.spares.a0,.bool d.spares.a1]
abbrev JV (a:Option Addr) (r_:Af) (g:Nat) (e:Option Addr) (i:Nat) (f:Option Addr) (k:Nat) (p:Option Addr) (x14:Am) (x:Nat) (q:Option Addr) (y:Nat) (s:Option Addr) (z:Nat):List SC:=[.slice a r_.legs.length g,.int .i64 r_.turn.lo,.int .i64 r_.turn.hi,.slice e r_.buses.length i,.slice f r_.spares.length k,.int .i64 r_.unit,.int .i64 r_.gap,.int .i64 r_.fr,.int .i64 r_.to_,.slice p x14.holds.length x,.slice q x14.turns.length y,.slice s x14.spares.length z]
abbrev PC (a:Option Addr) (r_:Af) (g:Nat) (e:Option Addr) (i:Nat) (f:Option Addr) (k:Nat) (d:Ap):List CP:=[⟨EF a r_ g e i f k,some 43⟩,⟨Gl d,some 102⟩,⟨TQ,some 115⟩]
abbrev LU (x17:List (EY Int Rg)) (ab:Option Addr) (ac:Nat) (most:Int):TM:=[tI 18 ((x17.length:Nat):Int),tS 17 ab x17.length ac,tB 8 true,tP 3 0 0,tI 2 most]
abbrev Ru (a:Option Addr) (r_:Af) (g:Nat) (e:Option Addr) (i:Nat) (f:Option Addr) (k:Nat) (d:Ap) (most:Int):TM:=[tA 13 (EF a r_ g e i f k),tA 12 (Gl d),tA 11 (EF a r_ g e i f k),tP 3 0 0,tI 2 most]
set_option maxRecDepth 100000 in
set_option maxHeartbeats 4000000 in
theorem I7 (n:Nat) {h:Ae} {w:World} (hh:Dn h w) (r_:Af) {cs_r_:List Value} (hx_r_:rep h r_ cs_r_) (d:Ap) {cs_d:List Value} (hx_d:rep h d cs_d) (most:Int) {r:Bool} (H:C9 n r_ d most=some r) :
  Calls Try.prog 53 #[.agg cs_r_.toArray,.agg cs_d.toArray,.int .i64 most] w (Dp (fun h v=>v=.bool r) h w):=by
 obtain⟨_,_,rfl,⟨a,g,rfl,ae⟩,⟨_,_,rfl,⟨_,_,rfl,rfl,rfl⟩,⟨_,_,rfl,⟨e,i,rfl,af⟩,⟨_,_,rfl,⟨f,k,rfl,ag⟩,⟨_,_,rfl,rfl,⟨_,_,rfl,rfl,⟨_,_,rfl,rfl,rfl⟩⟩⟩⟩⟩⟩⟩:=hx_r_
 obtain⟨_,_,rfl,⟨_,_,rfl,rfl,⟨_,_,rfl,rfl,⟨_,_,rfl,rfl,rfl⟩⟩⟩,⟨_,_,rfl,⟨_,_,rfl,rfl,⟨_,_,rfl,rfl,⟨_,_,rfl,rfl,rfl⟩⟩⟩,⟨_,_,rfl,rfl,rfl⟩⟩⟩:=hx_d
 refine enter 31 [.agg (EF a r_ g e i f k),.agg (Gl d),.c (.int .i64 most)] Try.func53 rfl rfl rfl rfl fun t hk=>?_
 have hm:=Ah.begin h w hh
 unfold C9 at H
 refine XT (Aa (wl fun K hK=>?_))
 refine wb (.agg (EF a r_ g e i f k)) hk hm fun l dm dx (cl:Kn 31 [(l,0)] [tP 3 0 0,tA 0 (EF a r_ g e i f k),tA 1 (Gl d),tI 2 most] dm) (c8:Ah ⟨w,h,Aj⟩ h [(l,0)] [⟨EF a r_ g e i f k,some 43⟩] [] dx)=>hK _ _ ?_
 refine wl fun K hK=>?_
 refine wb (.agg (Gl d)) cl c8 fun m ds b6 (ct:Kn 31 [(l,0),(m,0)] [tP 4 1 0,tP 3 0 0,tA 0 (EF a r_ g e i f k),tA 1 (Gl d),tI 2 most] ds) (av:Ah ⟨w,h,Aj⟩ h [(l,0),(m,0)] [⟨EF a r_ g e i f k,some 43⟩,⟨Gl d,some 102⟩] [] b6)=>hK _ _ ?_
 refine Rk 2 1 [tP 4 1 0,tP 3 0 0,tI 2 most] ct av fun ef cu=>?_
 refine wf (wp_scope_straight (XT (An (by kernel_rfl) ?_)))
 replace av:=av.drew
 refine Ao [] [(l,0),(m,0)] [⟨EF a r_ g e i f k,some 43⟩,⟨Gl d,some 102⟩] ?_
 refine Dr [0,1,2] [2,1,0] (Ru a r_ g e i f k d most) cu av fun du cv=>?_
 obtain⟨x14,ex14,H⟩:=Aq H
 have b1:Kn 31 [(l,0),(m,0),(0,0)] (Ru a r_ g e i f k d most) du:=cv.push (0,0) (by kernel_rfl)
 have br:Ah ⟨w,h,Aj⟩ h [(l,0),(m,0),(0,0)] [⟨EF a r_ g e i f k,some 43⟩,⟨Gl d,some 102⟩,⟨[],none⟩] [] (World.drew b6):=av.addPlc (b:=0) (o:=0) (cs:=[]) (fun j c hj=>by simp at hj) rfl (by kernel_rfl) (by kernel_rfl)
 refine NS (e':=[(l,0),(m,0),(0,0)]) (pl':=[⟨EF a r_ g e i f k,some 43⟩,⟨Gl d,some 102⟩,⟨[],none⟩]) (fun _ hp=>hp.pop (Nat.le_of_eq rfl) (by kernel_rfl)) ?_
 refine Cl (fun W=>∀ (u:Nat),∀ (p:Option Addr),∀ (x:Nat),∀ (q:Option Addr),∀ (y:Nat),∀ (s:Option Addr),∀ (z:Nat),∀ a' w',(∃ (be:Array Value)(ah:Ae),a' = ⟨be,[]⟩∧Kn 31 [(l,0),(m,0),(u,0)] [tP 7 2 0,tA 15 (JV a r_ g e i f k p x14 x q y s z),tP 3 0 0,tI 2 most] be∧Ah ⟨w,h,Aj⟩ ah [(l,0),(m,0),(u,0)] (PC a r_ g e i f k d) [] w'∧Ae.le h ah∧A6 ah p x x14.holds∧A6 ah q y x14.turns∧A6 ah s z x14.spares)→W [(l,0),(m,0),(u,0)] (PC a r_ g e i f k d) [4,3,5,2,1,0] a' w') ?_ (fun b5=>?_)
 ·
  intro u p x q y s z
  rintro _ eu ⟨be,ah,rfl,cw,c9,bn,aw,ax,ay⟩
  replace ae:=ae.mono bn
  replace af:=af.mono bn
  replace ag:=ag.mono bn
  refine D8 6 rfl (by kernel_rfl) (by decide) (rfl) (by kernel_rfl) fun K hK=>?_
  refine G2 2 0 (.agg (JV a r_ g e i f k p x14 x q y s z)) (JV a r_ g e i f k p x14 x q y s z) cw c9 fun d0 cx (ba:Ah ⟨w,h,Aj⟩ ah [(l,0),(m,0),(u,0)] [⟨EF a r_ g e i f k,some 43⟩,⟨Gl d,some 102⟩,⟨JV a r_ g e i f k p x14 x q y s z,some 115⟩] [] d0)=>hK _ _ ?_
  refine Ao [] [(l,0),(m,0),(u,0)] [⟨EF a r_ g e i f k,some 43⟩,⟨Gl d,some 102⟩,⟨JV a r_ g e i f k p x14 x q y s z,some 115⟩] ?_
  have cy:Kn 31 [(l,0),(m,0),(u,0)] [tP 7 2 0,tP 3 0 0,tI 2 most] be:=cx.kp
  refine Ay (by kernel_rfl) (XT (Aa (Rk 0 1 [tB 8 true,tP 7 2 0,tP 3 0 0,tI 2 most] cy ba fun eg cz=>?_)))
  refine wf (XT (wp_label (XT (XT (Aa (Rk 0 1 [tA 16 (JV a r_ g e i f k p x14 x q y s z),tB 8 true,tP 3 0 0,tI 2 most] cz ba fun eh c0=>?_))))))
  obtain⟨x17,ex17,H⟩:=Aq H
  refine wl fun K hK=>?_
  refine wc [.agg (JV a r_ g e i f k p x14 x q y s z)] c0 ba (Fk n ba.has (B3.mk r_ x14) ((Ab (Ab (Ad ae) (Ab (Ab Ac Ac) (Ab (Ad af) (Ab (Ad ag) (Ab Ac (Ab Ac (Ab Ac Ac))))))) (Ab (Ad aw) (Ab (Ad ax) (Ad ay)))):rep ah (B3.mk r_ x14) _) ex17) fun eo b0 ev cb aj b4=>?_
  replace ae:=ae.mono aj
  replace af:=af.mono aj
  replace ag:=ag.mono aj
  replace aw:=aw.mono aj
  replace ax:=ax.mono aj
  replace ay:=ay.mono aj
  obtain⟨ab,ac,rfl,bt⟩:=cb
  refine⟨.one (.c (.slice ab x17.length ac)),rfl,fun dv (c1:Kn 31 [(l,0),(m,0),(u,0)] [tS 17 ab x17.length ac,tA 16 (JV a r_ g e i f k p x14 x q y s z),tB 8 true,tP 3 0 0,tI 2 most] dv)=>hK _ _ ?_⟩
  refine Rk 2 2 ((tI 19 0)::(LU x17 ab ac most)) c1 b4 fun ei c2=>?_
  refine wf ?_
  obtain⟨bd,bx,H⟩:=Aq H
  refine Av (fun a' w'=>∃ (bv:Array Value)(bh:Ae),a' = ⟨bv,[]⟩∧Kn 31 [(l,0),(m,0),(u,0)] [tB 8 bd] bv∧Ah ⟨w,h,Aj⟩ bh [(l,0),(m,0),(u,0)] [⟨EF a r_ g e i f k,some 43⟩,⟨Gl d,some 102⟩,⟨JV a r_ g e i f k p x14 x q y s z,some 115⟩] [] w'∧Ae.le b0 bh) ?_ ?_
  ·
   refine wp_block ?_
   refine Ar (fun dk a' w'=>∃ (x_v10:Int)(bw:Array Value)(ar:Ae),a' = ⟨bw,[]⟩∧Kn 31 [(l,0),(m,0),(u,0)] ((tI 19 x_v10)::(LU x17 ab ac most)) bw∧Ah ⟨w,h,Aj⟩ ar [(l,0),(m,0),(u,0)] [⟨EF a r_ g e i f k,some 43⟩,⟨Gl d,some 102⟩,⟨JV a r_ g e i f k p x14 x q y s z,some 115⟩] [] w'∧Ae.le b0 ar∧Bt dk r_ most x17 x_v10=some bd) n ?_ ?_
   ·
    exact XY 0 ⟨_,_,rfl,c2.kp,b4,Ae.le_refl _,bx⟩
   ·
    rintro bc _ d1 ⟨x_v10,bw,ar,rfl,c3,bs,ad,aa⟩
    clear bx
    obtain _ | bc:=bc
    ·
     rw [Bt] at aa; cases aa
    rw [Bt] at aa
    replace ae:=ae.mono ad
    replace af:=af.mono ad
    replace ag:=ag.mono ad
    replace aw:=aw.mono ad
    replace ax:=ax.mono ad
    replace ay:=ay.mono ad
    replace bt:=bt.mono ad
    refine XT (Aa (Rk 0 1 ((tB 20 (decide (x_v10<((x17.length:Nat):Int))))::(tI 19 x_v10)::(LU x17 ab ac most)) c3 bs fun ej bl=>?_))
    refine wf (XT (wC (decide (x_v10<((x17.length:Nat):Int))) bl (fun bj=>?_) (fun bj=>?_)))
    ·
     rw [bj,XW] at aa
     refine wp_skip (XT (wp_block (XT (Aa ?_))))
     obtain⟨x21,ex21,aa⟩:=Aq aa
     obtain⟨da,db,dj⟩:=Ai ex21
     obtain⟨bf,bu,d3,cd,di,ce⟩:=bt.get (by decide) dj
     obtain⟨ai,d4,d2,rfl,bg,b7⟩:=di
     have bb:Ah ⟨w,h,Aj⟩ ar [(l,0),(m,0),(u,0),(bf,bu+(x_v10:Int).toNat*1)] [⟨EF a r_ g e i f k,some 43⟩,⟨Gl d,some 102⟩,⟨JV a r_ g e i f k p x14 x q y s z,some 115⟩,⟨[.map (some ai)],none⟩] [] d1:=bs.addPlc (cs:=[.map (some ai)]) (fun j c hj=>ce j _ (Al hj)) rfl (by kernel_rfl) (by kernel_rfl)
     refine Bc 0 (x_v10) rfl rfl (rfl) rfl (by decide) bl (by rfl) (by rfl) (by rfl) cd (by rfl) da db (by kernel_rfl) fun dw (c4:Kn 31 [(l,0),(m,0),(u,0),(bf,bu+(x_v10:Int).toNat*1)] ((tP 21 3 0)::(tB 20 (decide (x_v10<((x17.length:Nat):Int))))::(tI 19 x_v10)::(LU x17 ab ac most)) dw)=>?_
     refine Rk 1 2 ((10,.one (.c (.map (some ai))))::(tI 19 x_v10)::(LU x17 ab ac most)) c4 bb fun ek c5=>?_
     refine wf (XT (Aa (Rk 0 2 ((24,.one (.c (.map (some ai))))::(tA 23 (EF a r_ g e i f k))::(tI 19 x_v10)::(LU x17 ab ac most)) c5 bb fun d8 cf=>?_)))
     obtain⟨x25,ex25,aa⟩:=Aq aa
     refine wl fun K hK=>?_
     refine wc [.agg (EF a r_ g e i f k),.c (.map (some ai))] cf bb (Fm bc bb.has r_ ((Ab (Ad ae) (Ab (Ab Ac Ac) (Ab (Ad af) (Ab (Ad ag) (Ab Ac (Ab Ac (Ab Ac Ac))))))):rep ar r_ _) x21 bg b7 ex25) fun el d5 ep b8 bm au=>?_
     replace bg:=bm _ _ _ bg
     obtain⟨bz,rfl⟩:=b8
     refine⟨.one (.agg [.int .i64 bz,.int .i64 x25]),rfl,fun dl (cg:Kn 31 [(l,0),(m,0),(u,0),(bf,bu+(x_v10:Int).toNat*1)] ((tA 25 [.int .i64 bz,.int .i64 x25])::(24,.one (.c (.map (some ai))))::(tA 23 (EF a r_ g e i f k))::(tI 19 x_v10)::(LU x17 ab ac most)) dl)=>hK _ _ ?_⟩
     refine Rk 3 3 ((tB 28 (decide (x25>most)))::(tI 19 x_v10)::(LU x17 ab ac most)) cg au fun d9 bk=>?_
     refine wf (wC (decide (x25>most)) bk (fun bi=>?_) (fun bi=>?_))
     ·
      rw [bi,XW] at aa
      refine XT (Aa (Rk 0 1 [tB 8 false] bk au fun ea ch=>?_))
      refine wf (wp_exit ?_)
      obtain rfl:=XZ aa
      exact XY _ ⟨_,rfl,(ch.keep [8] (by rfl)).cut 3 (by kernel_rfl),au.cutPl 3 (by kernel_rfl),XU ad bm⟩
     ·
      rw [bi,XV] at aa
      refine wp_skip (Aa (Rk 0 2 ((tI 19 (IntKind.i64.wrap (x_v10+1)))::(LU x17 ab ac most)) bk au fun eb ci=>?_))
      refine wf ?_
      exact XY bc ⟨Nat.lt_succ_self _,XY (IntKind.i64.wrap (x_v10+1)) ⟨_,_,rfl,(ci.keep [19,18,17,8,3,2] (by rfl)).cut 3 (by kernel_rfl),au.cutPl 3 (by kernel_rfl),XU ad bm,aa⟩⟩
    ·
     rw [bj,XV] at aa
     refine wp_exit ?_
     obtain rfl:=XZ aa
     exact XY _ ⟨_,rfl,bl.kp,bs,ad⟩
  ·
   rintro _ er ⟨bv,bh,rfl,cj,b2,d7⟩
   refine XT (Aa (Rk 0 2 [tB 6 bd] cj b2 fun ec ck=>?_))
   refine wf (wp_ret ?_)
   obtain rfl:=XZ H
   exact rt (.one (.c (.bool bd))) ck b2 rfl
 refine HT 3 5 rfl rfl (by kernel_rfl) (by decide) (rfl) (rfl) (fun K hK=>?_) (fun K hK=>?_)
 ·
  refine wc [.agg (Gl d),.agg (EF a r_ g e i f k)] b1 br (CY n br.has d ((Ab (Ab Ac (Ab Ac (Ab Ac Ac))) (Ab (Ab Ac (Ab Ac (Ab Ac Ac))) (Ab Bo Bo))):rep h d _) r_ ((Ab (Ad ae) (Ab (Ab Ac Ac) (Ab (Ad af) (Ab (Ad ag) (Ab Ac (Ab Ac (Ab Ac Ac))))))):rep h r_ _) ex14) fun em cc es b9 c6 bo=>?_
  obtain⟨_,rfl,⟨_,_,rfl,⟨ak,ao,rfl,dc⟩,⟨_,_,rfl,⟨al,ap,rfl,dd⟩,⟨am,aq,rfl,de⟩⟩⟩⟩:=b9
  refine⟨.one (.agg [.slice ak x14.holds.length ao,.slice al x14.turns.length ap,.slice am x14.spares.length aq]),rfl,fun dp (cm:Kn 31 [(l,0),(m,0),(0,0)] ((tA 14 [.slice ak x14.holds.length ao,.slice al x14.turns.length ap,.slice am x14.spares.length aq])::(Ru a r_ g e i f k d most)) dp)=>hK _ _ bo.plOk ?_⟩
  refine Dr [4] (dn 4) [tA 15 [.slice a r_.legs.length g,.int .i64 r_.turn.lo,.int .i64 r_.turn.hi,.slice e r_.buses.length i,.slice f r_.spares.length k,.int .i64 r_.unit,.int .i64 r_.gap,.int .i64 r_.fr,.int .i64 r_.to_,.slice ak x14.holds.length ao,.slice al x14.turns.length ap,.slice am x14.spares.length aq],tP 3 0 0,tI 2 most] cm bo fun ed cn=>?_
  refine Dl 5 fun K hK=>?_
  refine Vd 2 TQ cn bo fun a6 dq dy (co:Kn 31 [(l,0),(m,0),(a6,0)] [tP 7 2 0,tA 15 [.slice a r_.legs.length g,.int .i64 r_.turn.lo,.int .i64 r_.turn.hi,.slice e r_.buses.length i,.slice f r_.spares.length k,.int .i64 r_.unit,.int .i64 r_.gap,.int .i64 r_.fr,.int .i64 r_.to_,.slice ak x14.holds.length ao,.slice al x14.turns.length ap,.slice am x14.spares.length aq],tP 3 0 0,tI 2 most] dq) (b3:Ah ⟨w,h,Aj⟩ cc [(l,0),(m,0),(a6,0)] (PC a r_ g e i f k d) [] dy)=>hK _ _ (AZ.unset 2 rfl (by kernel_rfl) b3.plOk) (NS (e':=[(l,0),(m,0),(a6,0)]) (pl':=(PC a r_ g e i f k d)) (fun _ hp=>hp.unset 2 rfl (by kernel_rfl)) ?_)
  refine Bq [4,3,5,2,1,0] (by kernel_rfl) (by rfl) (b5 a6 ak ao al ap am aq _ _ ?_)
  exact XY _ ⟨_,rfl,co.kp,b3,c6,dc,dd,de⟩
 ·
  refine Vd 2 TQ b1 br fun an dr dz (cp:Kn 31 [(l,0),(m,0),(an,0)] ((tP 7 2 0)::(Ru a r_ g e i f k d most)) dr) (bp:Ah ⟨w,h,Aj⟩ h [(l,0),(m,0),(an,0)] (PC a r_ g e i f k d) [] dz)=>hK _ _ (AZ.unset 2 rfl (by kernel_rfl) bp.plOk) (NS (e':=[(l,0),(m,0),(an,0)]) (pl':=(PC a r_ g e i f k d)) (fun _ hp=>hp.unset 2 rfl (by kernel_rfl)) ?_)
  refine Dl 3 fun K hK=>?_
  refine wc [.agg (Gl d),.agg (EF a r_ g e i f k)] cp bp (CY n bp.has d ((Ab (Ab Ac (Ab Ac (Ab Ac Ac))) (Ab (Ab Ac (Ab Ac (Ab Ac Ac))) (Ab Bo Bo))):rep h d _) r_ ((Ab (Ad ae) (Ab (Ab Ac Ac) (Ab (Ad af) (Ab (Ad ag) (Ab Ac (Ab Ac (Ab Ac Ac))))))):rep h r_ _) ex14) fun en d6 et ca c7 bq=>?_
  obtain⟨_,rfl,⟨_,_,rfl,⟨az,a7,rfl,df⟩,⟨_,_,rfl,⟨a4,a8,rfl,dg⟩,⟨a5,a9,rfl,dh⟩⟩⟩⟩:=ca
  refine⟨.one (.agg [.slice az x14.holds.length a7,.slice a4 x14.turns.length a8,.slice a5 x14.spares.length a9]),rfl,fun dt (cq:Kn 31 [(l,0),(m,0),(an,0)] ((tA 14 [.slice az x14.holds.length a7,.slice a4 x14.turns.length a8,.slice a5 x14.spares.length a9])::(tP 7 2 0)::(Ru a r_ g e i f k d most)) dt)=>hK _ _ bq.plOk ?_⟩
  refine Dr [4] [4,3,5,2,1,0] [tA 15 [.slice a r_.legs.length g,.int .i64 r_.turn.lo,.int .i64 r_.turn.hi,.slice e r_.buses.length i,.slice f r_.spares.length k,.int .i64 r_.unit,.int .i64 r_.gap,.int .i64 r_.fr,.int .i64 r_.to_,.slice az x14.holds.length a7,.slice a4 x14.turns.length a8,.slice a5 x14.spares.length a9],tP 7 2 0,tP 3 0 0,tI 2 most] cq bq fun ee cr=>?_
  refine Bq [4,3,5,2,1,0] (by kernel_rfl) (by rfl) (b5 an az a7 a4 a8 a5 a9 _ _ ?_)
  exact XY _ ⟨_,rfl,cr.kp,bq,c7,df,dg,dh⟩
end Go.Proofs.Ytokchpjijlebiaa
