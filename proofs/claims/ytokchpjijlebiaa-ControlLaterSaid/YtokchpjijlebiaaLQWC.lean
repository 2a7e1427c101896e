/- Each call computes its plain function. -/
import Derived.Test.YtokchpjijlebiaaProg
import Derived.Test.YtokchpjijlebiaaLQP0
import Derived.Test.YtokchpjijlebiaaLQWA
import Derived.Test.YtokchpjijlebiaaLQWB
set_option linter.all false
namespace Go.Proofs.Ytokchpjijlebiaa
open Go Go.RowKit
open Rep (rep)
open KRep (kv)
open VRep (rv)
abbrev NR (x31:Rg):List SC:=[.int .i64 x31.lo,.int .i64 x31.hi]
abbrev TB (r_:Af):List SC:=[.int .i64 r_.turn.lo,.int .i64 r_.turn.hi]
abbrev QS (a d e ar au:Nat) (x_v21:Int) (av ay:Nat):Be:=[(a,0),(d,0),(e,0),(ar,au+(x_v21:Int).toNat*3),(av,ay+(x_v21:Int).toNat*3)]
abbrev EU:List SC:=[.slice none 0 0,.int .i64 0,.int .i64 0,.slice none 0 0,.slice none 0 0,.int .i64 0,.int .i64 0,.int .i64 0,.int .i64 0]
abbrev Mu (x9:Rg) (r_:Af):List SC:=[.slice none 0 0,.int .i64 x9.lo,.int .i64 x9.hi,.slice none 0 0,.slice none 0 0,.int .i64 r_.unit,.int .i64 r_.gap,.int .i64 r_.fr,.int .i64 r_.to_]
abbrev Jf (p:Option Addr) (f:List Rg) (q:Nat) (x9:Rg) (y:Option Addr) (x:List Ce) (z:Nat) (ab:Option Addr) (aa:List Az) (ac:Nat) (r_:Af):List SC:=[.slice p f.length q,.int .i64 x9.lo,.int .i64 x9.hi,.slice y x.length z,.slice ab aa.length ac,.int .i64 r_.unit,.int .i64 r_.gap,.int .i64 r_.fr,.int .i64 r_.to_]
abbrev En (s:Option Addr) (r_:Af) (u:Nat) (g:Option Addr) (l:Nat) (k:Option Addr) (m:Nat):List SC:=[.slice s r_.legs.length u,.int .i64 r_.turn.lo,.int .i64 r_.turn.hi,.slice g r_.buses.length l,.slice k r_.spares.length m,.int .i64 r_.unit,.int .i64 r_.gap,.int .i64 r_.fr,.int .i64 r_.to_]
abbrev Pf (s:Option Addr) (r_:Af) (u:Nat) (g:Option Addr) (l:Nat) (k:Option Addr) (m:Nat):List CI:=[⟨En s r_ u g l k m,some 28⟩,⟨EU,some 43⟩,⟨EU,some 43⟩]
abbrev BO:TM:=[tP 3 2 0,tP 2 1 0,tP 1 0 0]
abbrev NS (r_:Af):TM:=[tI 17 r_.to_,tI 15 r_.fr,tI 13 r_.gap,tI 11 r_.unit,tA 8 (TB r_),tP 2 1 0,tP 1 0 0]
set_option maxRecDepth 100000 in
set_option maxHeartbeats 4000000 in
theorem Ey (n:Nat) {h:Ad} {w:World} (hh:Dk h w) (r_:Af) {cs_r_:List Value} (hx_r_:rep h r_ cs_r_) {r:Af} (H:DP n r_=some r) :
  Calls Try.prog 15 #[.agg cs_r_.toArray] w (Dq (fun h v=>∃ cs,v=.agg cs.toArray∧rep h r cs) h w):=by
 obtain⟨_,_,rfl,⟨s,u,rfl,ap⟩,⟨_,_,rfl,⟨_,_,rfl,rfl,rfl⟩,⟨_,_,rfl,⟨g,l,rfl,am⟩,⟨_,_,rfl,⟨k,m,rfl,ah⟩,⟨_,_,rfl,rfl,⟨_,_,rfl,rfl,⟨_,_,rfl,rfl,rfl⟩⟩⟩⟩⟩⟩⟩:=hx_r_
 refine enter 89 [.agg (En s r_ u g l k m)] Try.func15 rfl rfl rfl rfl fun t hk=>?_
 have hm:=Ah.begin h w hh
 unfold DP at H
 refine XT (Aa (wl fun K hK=>?_))
 refine wb (.agg (En s r_ u g l k m)) hk hm fun a hz jq (e7:Kn 89 [(a,0)] [tP 1 0 0,tA 0 (En s r_ u g l k m)] hz) gw=>hK _ _ ?_
 refine wl fun K hK=>?_
 refine wa EU e7 gw fun d d7 js (fe:Kn 89 [(a,0),(d,0)] [tP 2 1 0,tP 1 0 0,tA 0 (En s r_ u g l k m)] d7) bv=>hK _ _ ?_
 have fi:Kn 89 [(a,0),(d,0)] [tP 2 1 0,tP 1 0 0] d7:=fe.kp
 refine wf (XT (Al (by kernel_rfl) ?_))
 replace bv:=bv.drew
 refine Am [] [(a,0),(d,0)] [⟨En s r_ u g l k m,some 28⟩,⟨EU,some 43⟩] ?_
 refine Dr [0,1,3,4,5,6,7,8,9,10] [10,9,8,7,6,5,4,3,1,0] (NS r_) fi bv fun h6 fp=>?_
 obtain⟨x9,ex9,H⟩:=Ao H
 have dr:Kn 89 [(a,0),(d,0),(0,0)] (NS r_) h6:=fp.push (0,0) (by kernel_rfl)
 have ct:=bv.addPlc (b:=0) (o:=0) (cs:=[]) (fun j c hj=>by simp at hj) rfl (by kernel_rfl) (by kernel_rfl)
 refine IV (e':=[(a,0),(d,0),(0,0)]) (pl':=[⟨En s r_ u g l k m,some 28⟩,⟨EU,some 43⟩,⟨[],none⟩]) (fun _ hp=>hp.pop (Nat.le_of_eq rfl) (by kernel_rfl)) ?_
 refine Ck (fun W=>∀ (e:Nat),∀ a' w',(∃ (b1:Array Value)(a0:Ad),a' = ⟨b1,[]⟩∧Kn 89 [(a,0),(d,0),(e,0)] [tP 3 2 0,tA 18 (Mu x9 r_),tP 2 1 0,tP 1 0 0] b1∧Ah ⟨w,h,A5⟩ a0 [(a,0),(d,0),(e,0)] (Pf s r_ u g l k m) [] w'∧Ad.le h a0)→W [(a,0),(d,0),(e,0)] (Pf s r_ u g l k m) [11,2,12,10,9,8,7,6,5,4,3,1,0] a' w') ?_ (fun d6=>?_)
 ·
  intro e
  rintro _ jz ⟨b1,a0,rfl,f2,gy,cj⟩
  replace ap:=ap.mono cj
  replace am:=am.mono cj
  replace ah:=ah.mono cj
  refine Cx 13 rfl (by kernel_rfl) (by decide) (rfl) (by kernel_rfl) fun K hK=>?_
  refine EA 2 0 (.agg (Mu x9 r_)) (Mu x9 r_) f2 gy fun ip gb d4=>hK _ _ ?_
  refine Am [] [(a,0),(d,0),(e,0)] [⟨En s r_ u g l k m,some 28⟩,⟨EU,some 43⟩,⟨Mu x9 r_,some 43⟩] ?_
  have gh:Kn 89 [(a,0),(d,0),(e,0)] BO b1:=gb.kp
  refine A1 (by kernel_rfl) (XT (XT (Aa (Rk 0 1 ((tI 4 0)::BO) gh d4 fun jg gi=>?_))))
  refine wf ?_
  have gz:Ah ⟨w,h,A5⟩ a0 [(a,0),(d,0),(e,0)] [⟨En s r_ u g l k m,some 28⟩,⟨EU,some 43⟩,⟨Mu x9 r_,some 43⟩] [⟨none,0,0,39,2,[],0⟩] ip:=d4.nilRow 39 2
  have ev:Ag a0 ([]:List Rg) []:=Ag.nil
  obtain⟨f,dl,H⟩:=Ao H
  refine Aw (fun a' w'=>∃ (p:Option Addr)(q:Nat)(ae:List Value)(dd:Array Value)(ax:Ad),a' = ⟨dd,[]⟩∧Kn 89 [(a,0),(d,0),(e,0)] BO dd∧Ah ⟨w,h,A5⟩ ax [(a,0),(d,0),(e,0)] [⟨En s r_ u g l k m,some 28⟩,⟨EU,some 43⟩,⟨[.slice p f.length q,.int .i64 x9.lo,.int .i64 x9.hi,.slice none 0 0,.slice none 0 0,.int .i64 r_.unit,.int .i64 r_.gap,.int .i64 r_.fr,.int .i64 r_.to_],some 43⟩] [⟨p,f.length,q,39,2,ae,0⟩] w'∧Ad.le a0 ax∧Ag ax f ae) ?_ ?_
  ·
   refine wp_block ?_
   refine Au (fun hw a' w'=>∃ (x_v10:List Rg)(x_v11:Int)(an:Option Addr)(ao:Nat)(bd:List Value)(de:Array Value)(bn:Ad),a' = ⟨de,[]⟩∧Kn 89 [(a,0),(d,0),(e,0)] ((tI 4 x_v11)::BO) de∧Ah ⟨w,h,A5⟩ bn [(a,0),(d,0),(e,0)] [⟨En s r_ u g l k m,some 28⟩,⟨EU,some 43⟩,⟨[.slice an x_v10.length ao,.int .i64 x9.lo,.int .i64 x9.hi,.slice none 0 0,.slice none 0 0,.int .i64 r_.unit,.int .i64 r_.gap,.int .i64 r_.fr,.int .i64 r_.to_],some 43⟩] [⟨an,x_v10.length,ao,39,2,bd,0⟩] w'∧Ad.le a0 bn∧Ag bn x_v10 bd∧DA hw r_ x_v10 x_v11=some f) n ?_ ?_
   ·
    exact XY ([]:List Rg) ⟨0,none,0,[],_,_,rfl,gi.kp,gz,Ad.le_refl _,ev,dl⟩
   ·
    rintro b0 _ j5 ⟨x_v10,x_v11,an,ao,bd,de,bn,rfl,gj,a4,bo,bt,aj⟩
    clear dl
    obtain _ | b0:=b0
    ·
     rw [DA] at aj; cases aj
    rw [DA] at aj
    replace ap:=ap.mono bo
    replace am:=am.mono bo
    replace ah:=ah.mono bo
    refine XT (XT (Aa (Rk 0 5 ((tB 23 (decide (x_v11<((r_.legs.length:Nat):Int))))::(tI 4 x_v11)::BO) gj a4 fun jh cf=>?_)))
    refine wf (wC (decide (x_v11<((r_.legs.length:Nat):Int))) cf (fun b7=>?_) (fun b7=>?_))
    ·
     rw [b7,XW] at aj
     refine wp_skip (XT (wp_block (Al (by kernel_rfl) ?_)))
     replace a4:=a4.drew
     refine Am [] [(a,0),(d,0),(e,0)] [⟨En s r_ u g l k m,some 28⟩,⟨EU,some 43⟩,⟨[.slice an x_v10.length ao,.int .i64 x9.lo,.int .i64 x9.hi,.slice none 0 0,.slice none 0 0,.int .i64 r_.unit,.int .i64 r_.gap,.int .i64 r_.fr,.int .i64 r_.to_],some 43⟩] ?_
     refine Dr [0,1,2,3,4] (dn 4) ((tI 30 x_v11)::(tS 29 s r_.legs.length u)::(tS 27 an x_v10.length ao)::(tI 4 x_v11)::BO) cf a4 fun ji gk=>?_
     obtain⟨x31,ex31,aj⟩:=Ao aj
     obtain⟨g4,g9,ht⟩:=Ai ex31
     obtain⟨a7,ba,iy,ek,hn,ew⟩:=ap.get (by decide) ht
     obtain⟨_,_,rfl,rfl,rfl⟩:=hn
     have c1:=a4.addPlc (b:=a7) (o:=ba+(x_v11:Int).toNat*2) (cs:=(NR x31)) (fun j c hj=>ew j _ (Aj hj)) rfl (by kernel_rfl) (by kernel_rfl)
     refine A2 5 (x_v11) (NR x31) (fun _ _ _ _ _ h=>h) rfl rfl (rfl) rfl (by decide) (by kernel_rfl) (by kernel_rfl) gk a4.plOk (by rfl) (by rfl) (by rfl) ek (by rfl) g4 g9 (by kernel_rfl) fun ij (gl:Kn 89 [(a,0),(d,0),(e,0),(a7,ba+(x_v11:Int).toNat*2)] ((tP 31 3 0)::(tI 30 x_v11)::(tS 29 s r_.legs.length u)::(tS 27 an x_v10.length ao)::(tI 4 x_v11)::BO) ij)=>?_
     refine Dr [6] (dn 6) ((tA 32 (NR x31))::(tS 27 an x_v10.length ao)::(tI 4 x_v11)::BO) gl c1 fun jj gm=>?_
     obtain⟨x33,ex33,aj⟩:=Ao aj
     refine Dl 7 fun K hK=>?_
     refine wc [.agg (NR x31)] gm c1 (JD b0 c1.has x31 ((Ab Ac Ac):rep bn x31 _) ex33) fun jn b4 j6 ee du d5=>?_
     replace bt:=bt.mono du
     obtain⟨_,rfl,⟨_,_,rfl,rfl,rfl⟩⟩:=ee
     refine⟨.one (.agg [.int .i64 x33.lo,.int .i64 x33.hi]),rfl,fun ik (gn:Kn 89 [(a,0),(d,0),(e,0),(a7,ba+(x_v11:Int).toNat*2)] ((tA 33 [.int .i64 x33.lo,.int .i64 x33.hi])::(tA 32 (NR x31))::(tS 27 an x_v10.length ao)::(tI 4 x_v11)::BO) ik)=>hK _ _ d5.plOk ?_⟩
     refine Dl 8 fun K hK=>?_
     refine wS 39 2 [.int .i64 x33.lo,.int .i64 x33.hi] gn d5 fun di il j7 (go:Kn 89 [(a,0),(d,0),(e,0),(a7,ba+(x_v11:Int).toNat*2)] ((tS 34 di 1 1)::(tA 33 [.int .i64 x33.lo,.int .i64 x33.hi])::(tA 32 (NR x31))::(tS 27 an x_v10.length ao)::(tI 4 x_v11)::BO) il) c2=>?_
     have cc:Ag b4 ([x33]:List Rg) ([.int .i64 x33.lo,.int .i64 x33.hi]:List Value):=⟨_,_,rfl,((Ab Ac Ac):rep b4 (x33:Rg) _),rfl⟩
     refine hK _ _ c2.plOk ?_
     obtain⟨x35,ex35,aj⟩:=Ao aj
     obtain⟨c7,gr⟩:=AV ex35
     refine Dl 9 fun K hK=>?_
     refine AA 0 16 1 _ (x35.length) _ ([.int .i64 x33.lo,.int .i64 x33.hi]:List Value) go c2 rfl rfl (by decide) rfl (by rfl) (by kernel_rfl) (by rfl) (by rfl) (Ag.len cc) (c2.rowCell (i:=1) rfl) cc.one (by rw [c7]; simp <;> omega) (by rw [c7]; exact gr) (by decide) fun bg bj d8 hx jo ex (e0:Kn 89 [(a,0),(d,0),(e,0),(a7,ba+(x_v11:Int).toNat*2)] ((tS 35 bg x35.length bj)::(tS 34 di 1 1)::(tA 33 [.int .i64 x33.lo,.int .i64 x33.hi])::(tA 32 (NR x31))::(tS 27 an x_v10.length ao)::(tI 4 x_v11)::BO) hx) cm=>?_
     have el:Ag b4 x35 (bd++([.int .i64 x33.lo,.int .i64 x33.hi]:List Value)):=by rw [c7]; exact Ag.append bt cc
     obtain rfl:d8=0:=Nat.le_zero.1 ex
     refine hK _ _ cm.plOk ?_
     refine Dr [10] (dn 10) ((tP 36 2 0)::(tS 35 bg x35.length bj)::(tI 4 x_v11)::BO) e0 cm fun hy e1=>?_
     refine Cx 11 rfl (by kernel_rfl) (by decide) (rfl) (by kernel_rfl) fun K hK=>?_
     refine EA 2 0 (.c (.slice bg x35.length bj)) [.slice bg x35.length bj,.int .i64 x9.lo,.int .i64 x9.hi,.slice none 0 0,.slice none 0 0,.int .i64 r_.unit,.int .i64 r_.gap,.int .i64 r_.fr,.int .i64 r_.to_] e1 cm fun jp e2 dv=>hK _ _ ?_
     have e3:Kn 89 [(a,0),(d,0),(e,0),(a7,ba+(x_v11:Int).toNat*2)] ((tI 4 x_v11)::BO) hy:=e2.kp
     refine EH (by kernel_rfl) (Aa (Rk 0 3 ((tI 4 (IntKind.i64.wrap (x_v11+1)))::BO) e3 dv fun i0 e4=>?_))
     refine wf ?_
     exact XY b0 ⟨Nat.lt_succ_self _,XY x35 ⟨IntKind.i64.wrap (x_v11+1),bg,bj,bd++([.int .i64 x33.lo,.int .i64 x33.hi]:List Value),_,_,rfl,(e4.keep [4,3,2,1] (by rfl)).cut 3 (by kernel_rfl),(dv.cutRw 1).cutPl 3 (by kernel_rfl),XU bo du,el,aj⟩⟩
    ·
     rw [b7,XV] at aj
     refine wp_exit ?_
     obtain rfl:=XZ aj
     exact XY an ⟨ao,bd,_,_,rfl,cf.kp,a4,bo,bt⟩
  ·
   rintro _ im ⟨p,q,ae,dd,ax,rfl,e5,dw,cg,a1⟩
   replace ap:=ap.mono cg
   replace am:=am.mono cg
   replace ah:=ah.mono cg
   refine XT (XT (Aa (Rk 0 1 ((tI 5 0)::BO) e5 dw fun i1 e6=>?_)))
   refine wf ?_
   have gv:Ah ⟨w,h,A5⟩ ax [(a,0),(d,0),(e,0)] [⟨En s r_ u g l k m,some 28⟩,⟨EU,some 43⟩,⟨[.slice p f.length q,.int .i64 x9.lo,.int .i64 x9.hi,.slice none 0 0,.slice none 0 0,.int .i64 r_.unit,.int .i64 r_.gap,.int .i64 r_.fr,.int .i64 r_.to_],some 43⟩] [⟨p,f.length,q,39,2,ae,0⟩,⟨none,0,0,96,3,[],0⟩] im:=dw.nilRow 96 3
   have em:Ag ax ([]:List Ce) []:=Ag.nil
   obtain⟨x,dj,H⟩:=Ao H
   refine Aw (fun a' w'=>∃ (y:Option Addr)(z:Nat)(aq:List Value)(c9:Array Value)(aw:Ad),a' = ⟨c9,[]⟩∧Kn 89 [(a,0),(d,0),(e,0)] BO c9∧Ah ⟨w,h,A5⟩ aw [(a,0),(d,0),(e,0)] [⟨En s r_ u g l k m,some 28⟩,⟨EU,some 43⟩,⟨[.slice p f.length q,.int .i64 x9.lo,.int .i64 x9.hi,.slice y x.length z,.slice none 0 0,.int .i64 r_.unit,.int .i64 r_.gap,.int .i64 r_.fr,.int .i64 r_.to_],some 43⟩] [⟨p,f.length,q,39,2,ae,0⟩,⟨y,x.length,z,96,3,aq,0⟩] w'∧Ad.le ax aw∧Ag aw x aq) ?_ ?_
   ·
    refine wp_block ?_
    refine Au (fun hu a' w'=>∃ (x_v20:List Ce)(x_v21:Int)(af:Option Addr)(ag:Nat)(bb:List Value)(da:Array Value)(bm:Ad),a' = ⟨da,[]⟩∧Kn 89 [(a,0),(d,0),(e,0)] ((tI 5 x_v21)::BO) da∧Ah ⟨w,h,A5⟩ bm [(a,0),(d,0),(e,0)] [⟨En s r_ u g l k m,some 28⟩,⟨EU,some 43⟩,⟨[.slice p f.length q,.int .i64 x9.lo,.int .i64 x9.hi,.slice af x_v20.length ag,.slice none 0 0,.int .i64 r_.unit,.int .i64 r_.gap,.int .i64 r_.fr,.int .i64 r_.to_],some 43⟩] [⟨p,f.length,q,39,2,ae,0⟩,⟨af,x_v20.length,ag,96,3,bb,0⟩] w'∧Ad.le ax bm∧Ag bm x_v20 bb∧DB hu r_ x_v20 x_v21=some x) n ?_ ?_
    ·
     exact XY ([]:List Ce) ⟨0,none,0,[],_,_,rfl,e6.kp,gv,Ad.le_refl _,em,dj⟩
    ·
     rintro bz _ jr ⟨x_v20,x_v21,af,ag,bb,da,bm,rfl,e8,a2,a8,bs,ad⟩
     clear dj
     obtain _ | bz:=bz
     ·
      rw [DB] at ad; cases ad
     rw [DB] at ad
     replace ap:=ap.mono a8
     replace am:=am.mono a8
     replace ah:=ah.mono a8
     replace a1:=a1.mono a8
     refine XT (XT (Aa (Rk 0 5 ((tB 41 (decide (x_v21<((r_.buses.length:Nat):Int))))::(tI 5 x_v21)::BO) e8 a2 fun i2 cd=>?_)))
     refine wf (wC (decide (x_v21<((r_.buses.length:Nat):Int))) cd (fun b5=>?_) (fun b5=>?_))
     ·
      rw [b5,XW] at ad
      refine wp_skip (XT (wp_block (Al (by kernel_rfl) ?_)))
      replace a2:=a2.drew
      refine Am [] [(a,0),(d,0),(e,0)] [⟨En s r_ u g l k m,some 28⟩,⟨EU,some 43⟩,⟨[.slice p f.length q,.int .i64 x9.lo,.int .i64 x9.hi,.slice af x_v20.length ag,.slice none 0 0,.int .i64 r_.unit,.int .i64 r_.gap,.int .i64 r_.fr,.int .i64 r_.to_],some 43⟩] ?_
      refine Dr [0,1,2,3,4] (dn 4) ((tI 48 x_v21)::(tS 47 g r_.buses.length l)::(tS 45 af x_v20.length ag)::(tI 5 x_v21)::BO) cd a2 fun i3 e9=>?_
      obtain⟨x49,ex49,ad⟩:=Ao ad
      obtain⟨g0,g5,ho⟩:=Ai ex49
      obtain⟨ar,au,iu,eg,he,en⟩:=am.get (by decide) ho
      obtain⟨_,_,rfl,rfl,⟨_,_,rfl,rfl,rfl⟩⟩:=he
      have cn:=a2.addPlc (b:=ar) (o:=au+(x_v21:Int).toNat*3) (cs:=[.int .i64 x49.stop,.int .i64 x49.tm.lo,.int .i64 x49.tm.hi]) (fun j c hj=>en j _ (Aj hj)) rfl (by kernel_rfl) (by kernel_rfl)
      refine A2 5 (x_v21) [.int .i64 x49.stop,.int .i64 x49.tm.lo,.int .i64 x49.tm.hi] (fun _ _ _ _ _ h=>h) rfl rfl (rfl) rfl (by decide) (by kernel_rfl) (by kernel_rfl) e9 a2.plOk (by rfl) (by rfl) (by rfl) eg (by rfl) g0 g5 (by kernel_rfl) fun h0 (fa:Kn 89 [(a,0),(d,0),(e,0),(ar,au+(x_v21:Int).toNat*3)] ((tP 49 3 0)::(tI 48 x_v21)::(tS 47 g r_.buses.length l)::(tS 45 af x_v20.length ag)::(tI 5 x_v21)::BO) h0)=>?_
      refine Dr [6,7,8,9,10] (dn 10) ((tI 54 x_v21)::(tS 53 g r_.buses.length l)::(tI 51 x49.stop)::(tS 45 af x_v20.length ag)::(tI 5 x_v21)::BO) fa cn fun i4 fb=>?_
      obtain⟨x55,ex55,ad⟩:=Ao ad
      obtain⟨g1,g6,hq⟩:=Ai ex55
      obtain⟨av,ay,iv,eh,hf,eo⟩:=am.get (by decide) hq
      obtain⟨_,_,rfl,rfl,⟨_,_,rfl,rfl,rfl⟩⟩:=hf
      have co:=cn.addPlc (b:=av) (o:=ay+(x_v21:Int).toNat*3) (cs:=[.int .i64 x55.stop,.int .i64 x55.tm.lo,.int .i64 x55.tm.hi]) (fun j c hj=>eo j _ (Aj hj)) rfl (by kernel_rfl) (by kernel_rfl)
      refine A2 11 (x_v21) [.int .i64 x55.stop,.int .i64 x55.tm.lo,.int .i64 x55.tm.hi] (fun _ _ _ _ _ h=>h) rfl rfl (rfl) rfl (by decide) (by kernel_rfl) (by kernel_rfl) fb cn.plOk (by rfl) (by rfl) (by rfl) eh (by rfl) g1 g6 (by kernel_rfl) fun h1 (fc:Kn 89 (QS a d e ar au x_v21 av ay) ((tP 55 4 0)::(tI 54 x_v21)::(tS 53 g r_.buses.length l)::(tI 51 x49.stop)::(tS 45 af x_v20.length ag)::(tI 5 x_v21)::BO) h1)=>?_
      refine Dr [12,13] (dn 13) ((tA 57 [.int .i64 x55.tm.lo,.int .i64 x55.tm.hi])::(tI 51 x49.stop)::(tS 45 af x_v20.length ag)::(tI 5 x_v21)::BO) fc co fun i5 fd=>?_
      obtain⟨x58,ex58,ad⟩:=Ao ad
      refine Dl 14 fun K hK=>?_
      refine wc [.agg [.int .i64 x55.tm.lo,.int .i64 x55.tm.hi]] fd co (JD bz co.has x55.tm ((Ab Ac Ac):rep bm x55.tm _) ex58) fun jk b2 jt eb ds cp=>?_
      replace bs:=bs.mono ds
      obtain⟨_,rfl,⟨_,_,rfl,rfl,rfl⟩⟩:=eb
      refine⟨.one (.agg [.int .i64 x58.lo,.int .i64 x58.hi]),rfl,fun h2 (ff:Kn 89 (QS a d e ar au x_v21 av ay) ((tA 58 [.int .i64 x58.lo,.int .i64 x58.hi])::(tA 57 [.int .i64 x55.tm.lo,.int .i64 x55.tm.hi])::(tI 51 x49.stop)::(tS 45 af x_v20.length ag)::(tI 5 x_v21)::BO) h2)=>hK _ _ cp.plOk ?_⟩
      refine Dr [15] (dn 15) ((tA 59 [.int .i64 x49.stop,.int .i64 x58.lo,.int .i64 x58.hi])::(tS 45 af x_v20.length ag)::(tI 5 x_v21)::BO) ff cp fun i6 fg=>?_
      refine Dl 16 fun K hK=>?_
      refine wS 96 3 [.int .i64 x49.stop,.int .i64 x58.lo,.int .i64 x58.hi] fg cp fun dg h3 ju (fh:Kn 89 (QS a d e ar au x_v21 av ay) ((tS 60 dg 1 1)::(tA 59 [.int .i64 x49.stop,.int .i64 x58.lo,.int .i64 x58.hi])::(tS 45 af x_v20.length ag)::(tI 5 x_v21)::BO) h3) cq=>?_
      have b9:Ag b2 ([Ce.mk x49.stop x58]:List Ce) ([.int .i64 x49.stop,.int .i64 x58.lo,.int .i64 x58.hi]:List Value):=⟨_,_,rfl,((Ab Ac (Ab Ac Ac)):rep b2 ((Ce.mk x49.stop x58):Ce) _),rfl⟩
      refine hK _ _ cq.plOk ?_
      obtain⟨x61,ex61,ad⟩:=Ao ad
      obtain⟨c5,gp⟩:=AV ex61
      refine Dl 17 fun K hK=>?_
      refine AA 1 24 1 _ (x61.length) _ ([.int .i64 x49.stop,.int .i64 x58.lo,.int .i64 x58.hi]:List Value) fh cq rfl rfl (by decide) rfl (by rfl) (by kernel_rfl) (by rfl) (by rfl) (Ag.len b9) (cq.rowCell (i:=2) rfl) b9.one (by rw [c5]; simp <;> omega) (by rw [c5]; exact gp) (by decide) fun be bk d9 h4 jv ey (fj:Kn 89 (QS a d e ar au x_v21 av ay) ((tS 61 be x61.length bk)::(tS 60 dg 1 1)::(tA 59 [.int .i64 x49.stop,.int .i64 x58.lo,.int .i64 x58.hi])::(tS 45 af x_v20.length ag)::(tI 5 x_v21)::BO) h4) cr=>?_
      have ep:Ag b2 x61 (bb++([.int .i64 x49.stop,.int .i64 x58.lo,.int .i64 x58.hi]:List Value)):=by rw [c5]; exact Ag.append bs b9
      obtain rfl:d9=0:=Nat.le_zero.1 ey
      refine hK _ _ cr.plOk ?_
      refine Dr [18] (dn 18) ((tP 62 2 3)::(tS 61 be x61.length bk)::(tI 5 x_v21)::BO) fj cr fun h5 fk=>?_
      refine Cx 19 rfl (by kernel_rfl) (by decide) (rfl) (by kernel_rfl) fun K hK=>?_
      refine EA 2 3 (.c (.slice be x61.length bk)) [.slice p f.length q,.int .i64 x9.lo,.int .i64 x9.hi,.slice be x61.length bk,.slice none 0 0,.int .i64 r_.unit,.int .i64 r_.gap,.int .i64 r_.fr,.int .i64 r_.to_] fk cr fun jw fl dx=>hK _ _ ?_
      have fm:Kn 89 (QS a d e ar au x_v21 av ay) ((tI 5 x_v21)::BO) h5:=fl.kp
      refine EH (by kernel_rfl) (Aa (Rk 0 3 ((tI 5 (IntKind.i64.wrap (x_v21+1)))::BO) fm dx fun i7 fn=>?_))
      refine wf ?_
      exact XY bz ⟨Nat.lt_succ_self _,XY x61 ⟨IntKind.i64.wrap (x_v21+1),be,bk,bb++([.int .i64 x49.stop,.int .i64 x58.lo,.int .i64 x58.hi]:List Value),_,_,rfl,(fn.keep [5,3,2,1] (by rfl)).cut 3 (by kernel_rfl),(dx.cutRw 2).cutPl 3 (by kernel_rfl),XU a8 ds,ep,ad⟩⟩
     ·
      rw [b5,XV] at ad
      refine wp_exit ?_
      obtain rfl:=XZ ad
      exact XY af ⟨ag,bb,_,_,rfl,cd.kp,a2,a8,bs⟩
   ·
    rintro _ io ⟨y,z,aq,c9,aw,rfl,fo,dy,bu,b8⟩
    replace ap:=ap.mono bu
    replace am:=am.mono bu
    replace ah:=ah.mono bu
    replace a1:=a1.mono bu
    refine XT (XT (Aa (Rk 0 1 ((tI 6 0)::BO) fo dy fun i8 fq=>?_)))
    refine wf ?_
    have gx:Ah ⟨w,h,A5⟩ aw [(a,0),(d,0),(e,0)] [⟨En s r_ u g l k m,some 28⟩,⟨EU,some 43⟩,⟨[.slice p f.length q,.int .i64 x9.lo,.int .i64 x9.hi,.slice y x.length z,.slice none 0 0,.int .i64 r_.unit,.int .i64 r_.gap,.int .i64 r_.fr,.int .i64 r_.to_],some 43⟩] [⟨p,f.length,q,39,2,ae,0⟩,⟨y,x.length,z,96,3,aq,0⟩,⟨none,0,0,110,2,[],0⟩] io:=dy.nilRow 110 2
    have er:Ag aw ([]:List Az) []:=Ag.nil
    obtain⟨aa,dk,H⟩:=Ao H
    refine Aw (fun a' w'=>∃ (ab:Option Addr)(ac:Nat)(a5:List Value)(db:Array Value)(br:Ad),a' = ⟨db,[]⟩∧Kn 89 [(a,0),(d,0),(e,0)] [tP 3 2 0,tP 2 1 0] db∧Ah ⟨w,h,A5⟩ br [(a,0),(d,0),(e,0)] [⟨En s r_ u g l k m,some 28⟩,⟨EU,some 43⟩,⟨Jf p f q x9 y x z ab aa ac r_,some 43⟩] [⟨p,f.length,q,39,2,ae,0⟩,⟨y,x.length,z,96,3,aq,0⟩,⟨ab,aa.length,ac,110,2,a5,0⟩] w'∧Ad.le aw br∧Ag br aa a5) ?_ ?_
    ·
     refine wp_block ?_
     refine Au (fun hv a' w'=>∃ (x_v30:List Az)(x_v31:Int)(ak:Option Addr)(al:Nat)(bc:List Value)(dc:Array Value)(az:Ad),a' = ⟨dc,[]⟩∧Kn 89 [(a,0),(d,0),(e,0)] ((tI 6 x_v31)::BO) dc∧Ah ⟨w,h,A5⟩ az [(a,0),(d,0),(e,0)] [⟨En s r_ u g l k m,some 28⟩,⟨EU,some 43⟩,⟨[.slice p f.length q,.int .i64 x9.lo,.int .i64 x9.hi,.slice y x.length z,.slice ak x_v30.length al,.int .i64 r_.unit,.int .i64 r_.gap,.int .i64 r_.fr,.int .i64 r_.to_],some 43⟩] [⟨p,f.length,q,39,2,ae,0⟩,⟨y,x.length,z,96,3,aq,0⟩,⟨ak,x_v30.length,al,110,2,bc,0⟩] w'∧Ad.le aw az∧Ag az x_v30 bc∧DC hv r_ x_v30 x_v31=some aa) n ?_ ?_
     ·
      exact XY ([]:List Az) ⟨0,none,0,[],_,_,rfl,fq.kp,gx,Ad.le_refl _,er,dk⟩
     ·
      rintro c8 _ jx ⟨x_v30,x_v31,ak,al,bc,dc,az,rfl,fs,a3,ch,dq,ai⟩
      clear dk
      obtain _ | c8:=c8
      ·
       rw [DC] at ai; cases ai
      rw [DC] at ai
      replace ah:=ah.mono ch
      refine XT (XT (Aa (Rk 0 5 ((tB 67 (decide (x_v31<((r_.spares.length:Nat):Int))))::(tI 6 x_v31)::BO) fs a3 fun i9 ce=>?_)))
      refine wf (wC (decide (x_v31<((r_.spares.length:Nat):Int))) ce (fun b6=>?_) (fun b6=>?_))
      ·
       rw [b6,XW] at ai
       refine wp_skip (XT (wp_block (Al (by kernel_rfl) ?_)))
       replace a3:=a3.drew
       refine Am [] [(a,0),(d,0),(e,0)] [⟨En s r_ u g l k m,some 28⟩,⟨EU,some 43⟩,⟨[.slice p f.length q,.int .i64 x9.lo,.int .i64 x9.hi,.slice y x.length z,.slice ak x_v30.length al,.int .i64 r_.unit,.int .i64 r_.gap,.int .i64 r_.fr,.int .i64 r_.to_],some 43⟩] ?_
       refine Dr [0,1,2,3,4] (dn 4) ((tI 74 x_v31)::(tS 73 k r_.spares.length m)::(tS 71 ak x_v30.length al)::(tI 6 x_v31)::BO) ce a3 fun ja ft=>?_
       obtain⟨x75,ex75,ai⟩:=Ao ai
       obtain⟨g2,g7,hr⟩:=Ai ex75
       obtain⟨a6,a9,iw,ei,hg,es⟩:=ah.get (by decide) hr
       obtain⟨_,_,rfl,rfl,rfl⟩:=hg
       have cu:=a3.addPlc (b:=a6) (o:=a9+(x_v31:Int).toNat*2) (cs:=[.int .i64 x75.stop,.int .i64 x75.tm]) (fun j c hj=>es j _ (Aj hj)) rfl (by kernel_rfl) (by kernel_rfl)
       refine A2 5 (x_v31) [.int .i64 x75.stop,.int .i64 x75.tm] (fun _ _ _ _ _ h=>h) rfl rfl (rfl) rfl (by decide) (by kernel_rfl) (by kernel_rfl) ft a3.plOk (by rfl) (by rfl) (by rfl) ei (by rfl) g2 g7 (by kernel_rfl) fun h7 (fu:Kn 89 [(a,0),(d,0),(e,0),(a6,a9+(x_v31:Int).toNat*2)] ((tP 75 3 0)::(tI 74 x_v31)::(tS 73 k r_.spares.length m)::(tS 71 ak x_v30.length al)::(tI 6 x_v31)::BO) h7)=>?_
       refine Dr [6,7,8,9,10] (dn 10) ((tI 80 x_v31)::(tS 79 k r_.spares.length m)::(tI 77 x75.stop)::(tS 71 ak x_v30.length al)::(tI 6 x_v31)::BO) fu cu fun jb fv=>?_
       obtain⟨x81,ex81,ai⟩:=Ao ai
       obtain⟨g3,g8,hs⟩:=Ai ex81
       obtain⟨bh,bp,ix,ej,hl,et⟩:=ah.get (by decide) hs
       obtain⟨_,_,rfl,rfl,rfl⟩:=hl
       have dz:=cu.addPlc (b:=bh) (o:=bp+(x_v31:Int).toNat*2) (cs:=[.int .i64 x81.stop,.int .i64 x81.tm]) (fun j c hj=>et j _ (Aj hj)) rfl (by kernel_rfl) (by kernel_rfl)
       refine A2 11 (x_v31) [.int .i64 x81.stop,.int .i64 x81.tm] (fun _ _ _ _ _ h=>h) rfl rfl (rfl) rfl (by decide) (by kernel_rfl) (by kernel_rfl) fv cu.plOk (by rfl) (by rfl) (by rfl) ej (by rfl) g3 g8 (by kernel_rfl) fun h8 (fw:Kn 89 [(a,0),(d,0),(e,0),(a6,a9+(x_v31:Int).toNat*2),(bh,bp+(x_v31:Int).toNat*2)] ((tP 81 4 0)::(tI 80 x_v31)::(tS 79 k r_.spares.length m)::(tI 77 x75.stop)::(tS 71 ak x_v30.length al)::(tI 6 x_v31)::BO) h8)=>?_
       refine Dr [12,13,14] (dn 14) ((tA 84 [.int .i64 x75.stop,.int .i64 x81.tm])::(tS 71 ak x_v30.length al)::(tI 6 x_v31)::BO) fw dz fun jc fx=>?_
       refine Dl 15 fun K hK=>?_
       refine wS 110 2 [.int .i64 x75.stop,.int .i64 x81.tm] fx dz fun dh h9 jy (fy:Kn 89 [(a,0),(d,0),(e,0),(a6,a9+(x_v31:Int).toNat*2),(bh,bp+(x_v31:Int).toNat*2)] ((tS 85 dh 1 1)::(tA 84 [.int .i64 x75.stop,.int .i64 x81.tm])::(tS 71 ak x_v30.length al)::(tI 6 x_v31)::BO) h9) cv=>?_
       have cb:Ag az ([Az.mk x75.stop x81.tm]:List Az) ([.int .i64 x75.stop,.int .i64 x81.tm]:List Value):=⟨_,_,rfl,((Ab Ac Ac):rep az ((Az.mk x75.stop x81.tm):Az) _),rfl⟩
       refine hK _ _ cv.plOk ?_
       obtain⟨x86,ex86,ai⟩:=Ao ai
       obtain⟨c6,gq⟩:=AV ex86
       refine Dl 16 fun K hK=>?_
       refine AA 2 16 1 _ (x86.length) _ ([.int .i64 x75.stop,.int .i64 x81.tm]:List Value) fy cv rfl rfl (by decide) rfl (by rfl) (by kernel_rfl) (by rfl) (by rfl) (Ag.len cb) (cv.rowCell (i:=3) rfl) cb.one (by rw [c6]; simp <;> omega) (by rw [c6]; exact gq) (by decide) fun bf bl ea ia j0 ez (fz:Kn 89 [(a,0),(d,0),(e,0),(a6,a9+(x_v31:Int).toNat*2),(bh,bp+(x_v31:Int).toNat*2)] ((tS 86 bf x86.length bl)::(tS 85 dh 1 1)::(tA 84 [.int .i64 x75.stop,.int .i64 x81.tm])::(tS 71 ak x_v30.length al)::(tI 6 x_v31)::BO) ia) cw=>?_
       have eu:Ag az x86 (bc++([.int .i64 x75.stop,.int .i64 x81.tm]:List Value)):=by rw [c6]; exact Ag.append dq cb
       obtain rfl:ea=0:=Nat.le_zero.1 ez
       refine hK _ _ cw.plOk ?_
       refine Dr [17] (dn 17) ((tP 87 2 4)::(tS 86 bf x86.length bl)::(tI 6 x_v31)::BO) fz cw fun ib f0=>?_
       refine Cx 18 rfl (by kernel_rfl) (by decide) (rfl) (by kernel_rfl) fun K hK=>?_
       refine EA 2 4 (.c (.slice bf x86.length bl)) [.slice p f.length q,.int .i64 x9.lo,.int .i64 x9.hi,.slice y x.length z,.slice bf x86.length bl,.int .i64 r_.unit,.int .i64 r_.gap,.int .i64 r_.fr,.int .i64 r_.to_] f0 cw fun j1 f1 d0=>hK _ _ ?_
       have f3:Kn 89 [(a,0),(d,0),(e,0),(a6,a9+(x_v31:Int).toNat*2),(bh,bp+(x_v31:Int).toNat*2)] ((tI 6 x_v31)::BO) ib:=f1.kp
       refine EH (by kernel_rfl) (Aa (Rk 0 3 ((tI 6 (IntKind.i64.wrap (x_v31+1)))::BO) f3 d0 fun jd f4=>?_))
       refine wf ?_
       exact XY c8 ⟨Nat.lt_succ_self _,XY x86 ⟨IntKind.i64.wrap (x_v31+1),bf,bl,bc++([.int .i64 x75.stop,.int .i64 x81.tm]:List Value),_,_,rfl,(f4.keep [6,3,2,1] (by rfl)).cut 3 (by kernel_rfl),(d0.cutRw 3).cutPl 3 (by kernel_rfl),ch,eu,ai⟩⟩
      ·
       rw [b6,XV] at ai
       refine wp_exit ?_
       obtain rfl:=XZ ai
       exact XY ak ⟨al,bc,_,_,rfl,ce.kp,a3,ch,dq⟩
    ·
     rintro _ j2 ⟨ab,ac,a5,db,br,rfl,f5,d1,dt,ca⟩
     refine XT (Aa (Rk 0 1 [tA 88 (Jf p f q x9 y x z ab aa ac r_),tP 2 1 0] f5 d1 fun ic f6=>?_))
     refine wl fun K hK=>?_
     refine EA 1 0 (.agg (Jf p f q x9 y x z ab aa ac r_)) (Jf p f q x9 y x z ab aa ac r_) f6 d1 fun df f7 d2=>hK _ _ ?_
     have f8:Kn 89 [(a,0),(d,0),(e,0)] [tP 2 1 0] ic:=f7.kp
     refine wf (wp_ret ?_)
     obtain⟨dm,ci,hb,bw⟩:=d2.settle (i:=0) rfl
     replace a1:=a1.mono (XU dt ci)
     replace bw:Ah ⟨w,h,A5⟩ dm [(a,0),(d,0),(e,0)] [⟨En s r_ u g l k m,some 28⟩,⟨Jf p f q x9 y x z ab aa ac r_,some 43⟩,⟨Jf p f q x9 y x z ab aa ac r_,some 43⟩] [⟨p,f.length,q,39,2,ae,(ae:List Value).length⟩,⟨y,x.length,z,96,3,aq,0⟩,⟨ab,aa.length,ac,110,2,a5,0⟩] df:=bw
     have c3:A0 dm p q f:=⟨_,a1,hb,d2.rowCap (i:=0) rfl⟩
     obtain⟨dp,ck,hc,bx⟩:=bw.settle (i:=1) rfl
     replace b8:=b8.mono (XU (XU dt ci) ck)
     replace bx:Ah ⟨w,h,A5⟩ dp [(a,0),(d,0),(e,0)] [⟨En s r_ u g l k m,some 28⟩,⟨Jf p f q x9 y x z ab aa ac r_,some 43⟩,⟨Jf p f q x9 y x z ab aa ac r_,some 43⟩] [⟨p,f.length,q,39,2,ae,(ae:List Value).length⟩,⟨y,x.length,z,96,3,aq,(aq:List Value).length⟩,⟨ab,aa.length,ac,110,2,a5,0⟩] df:=bx
     have c4:A0 dp y z x:=⟨_,b8,hc,bw.rowCap (i:=1) rfl⟩
     obtain⟨b3,cl,hd,cx⟩:=bx.settle (i:=2) rfl
     replace c3:=c3.mono (XU ck cl)
     replace c4:=c4.mono cl
     replace ca:=ca.mono (XU (XU ci ck) cl)
     replace cx:Ah ⟨w,h,A5⟩ b3 [(a,0),(d,0),(e,0)] [⟨En s r_ u g l k m,some 28⟩,⟨Jf p f q x9 y x z ab aa ac r_,some 43⟩,⟨Jf p f q x9 y x z ab aa ac r_,some 43⟩] [⟨p,f.length,q,39,2,ae,(ae:List Value).length⟩,⟨y,x.length,z,96,3,aq,(aq:List Value).length⟩,⟨ab,aa.length,ac,110,2,a5,(a5:List Value).length⟩] df:=cx
     have ha:A0 b3 ab ac aa:=⟨_,ca,hd,bx.rowCap (i:=2) rfl⟩
     obtain rfl:=XZ H
     exact rt (.one (.agg (Jf p f q x9 y x z ab aa ac r_))) f8 cx ⟨_,rfl,((Ab (Ae c3) (Ab (Ab Ac Ac) (Ab (Ae c4) (Ab (Ae ha) (Ab Ac (Ab Ac (Ab Ac Ac))))))):rep b3 ((Af.mk f x9 x aa r_.unit r_.gap r_.fr r_.to_):Af) _)⟩
 refine Gk 2 12 rfl rfl (by kernel_rfl) (by decide) (rfl) (rfl) (fun K hK=>?_) (fun K hK=>?_)
 ·
  refine wc [.agg (TB r_)] dr ct (JD n ct.has r_.turn ((Ab Ac Ac):rep h r_.turn _) ex9) fun jl ef j3 ec gs cy=>?_
  obtain⟨_,rfl,⟨_,_,rfl,rfl,rfl⟩⟩:=ec
  refine⟨.one (.agg [.int .i64 x9.lo,.int .i64 x9.hi]),rfl,fun ie (f9:Kn 89 [(a,0),(d,0),(0,0)] ((tA 9 [.int .i64 x9.lo,.int .i64 x9.hi])::(NS r_)) ie)=>hK _ _ cy.plOk ?_⟩
  refine Dr [11] [11,2,10,9,8,7,6,5,4,3,1,0] [tA 18 (Mu x9 r_),tP 2 1 0,tP 1 0 0] f9 cy fun je ga=>?_
  refine Dl 12 fun K hK=>?_
  refine UO 2 EU ga cy fun bq ig iq (gc:Kn 89 [(a,0),(d,0),(bq,0)] [tP 3 2 0,tA 18 (Mu x9 r_),tP 2 1 0,tP 1 0 0] ig) (d3:Ah ⟨w,h,A5⟩ ef [(a,0),(d,0),(bq,0)] (Pf s r_ u g l k m) [] iq)=>hK _ _ (A6.unset 2 rfl (by kernel_rfl) d3.plOk) (IV (e':=[(a,0),(d,0),(bq,0)]) (pl':=(Pf s r_ u g l k m)) (fun _ hp=>hp.unset 2 rfl (by kernel_rfl)) ?_)
  refine Ba [11,2,12,10,9,8,7,6,5,4,3,1,0] (by kernel_rfl) (by rfl) (d6 bq _ _ ?_)
  exact XY _ ⟨_,rfl,gc.kp,d3,gs⟩
 ·
  refine UO 2 EU dr ct fun bi ih ir (gd:Kn 89 [(a,0),(d,0),(bi,0)] ((tP 3 2 0)::(NS r_)) ih) (cz:Ah ⟨w,h,A5⟩ h [(a,0),(d,0),(bi,0)] (Pf s r_ u g l k m) [] ir)=>hK _ _ (A6.unset 2 rfl (by kernel_rfl) cz.plOk) (IV (e':=[(a,0),(d,0),(bi,0)]) (pl':=(Pf s r_ u g l k m)) (fun _ hp=>hp.unset 2 rfl (by kernel_rfl)) ?_)
  refine Dl 2 fun K hK=>?_
  refine wc [.agg (TB r_)] gd cz (JD n cz.has r_.turn ((Ab Ac Ac):rep h r_.turn _) ex9) fun jm iz j4 ed gu c0=>?_
  obtain⟨_,rfl,⟨_,_,rfl,rfl,rfl⟩⟩:=ed
  refine⟨.one (.agg [.int .i64 x9.lo,.int .i64 x9.hi]),rfl,fun ii (gf:Kn 89 [(a,0),(d,0),(bi,0)] ((tA 9 [.int .i64 x9.lo,.int .i64 x9.hi])::(tP 3 2 0)::(NS r_)) ii)=>hK _ _ c0.plOk ?_⟩
  refine Dr [11] [11,2,12,10,9,8,7,6,5,4,3,1,0] ((tA 18 (Mu x9 r_))::BO) gf c0 fun jf gg=>?_
  refine Ba [11,2,12,10,9,8,7,6,5,4,3,1,0] (by kernel_rfl) (by rfl) (d6 bi _ _ ?_)
  exact XY _ ⟨_,rfl,gg.kp,c0,gu⟩
abbrev H5:List SC:=[.slice none 0 0,.slice none 0 0,.slice none 0 0]
abbrev H6 (g:Option Addr) (t_:Av) (k:Nat) (d:Option Addr) (f:Nat) (l:Option Addr) (m:Nat):List SC:=[.slice g t_.tm.length k,.slice d t_.turns.length f,.slice l t_.legs.length m]
abbrev JR (g:Option Addr) (t_:Av) (k:Nat) (d:Option Addr) (f:Nat) (l:Option Addr) (m:Nat):List CI:=[⟨H6 g t_ k d f l m,some 75⟩,⟨H5,some 76⟩,⟨H5,some 76⟩]
abbrev EE:TM:=[tP 2 1 0,tP 1 0 0]
abbrev NT (d:Option Addr) (t_:Av) (f:Nat) (g:Option Addr) (k:Nat):TM:=(tS 9 d t_.turns.length f)::(tS 6 g t_.tm.length k)::EE
set_option maxRecDepth 100000 in
set_option maxHeartbeats 4000000 in
theorem Lf (n:Nat) {h:Ad} {w:World} (hh:Dk h w) (t_:Av) {cs_t_:List Value} (hx_t_:rep h t_ cs_t_) {r:Av} (H:ES n t_=some r) :
  Calls Try.prog 43 #[.agg cs_t_.toArray] w (Dq (fun h v=>∃ cs,v=.agg cs.toArray∧rep h r cs) h w):=by
 obtain⟨_,_,rfl,⟨g,k,rfl,ak⟩,⟨_,_,rfl,⟨d,f,rfl,ae⟩,⟨l,m,rfl,ap⟩⟩⟩:=hx_t_
 refine enter 31 [.agg (H6 g t_ k d f l m)] Try.func43 rfl rfl rfl rfl fun t hk=>?_
 have hm:=Ah.begin h w hh
 unfold ES at H
 refine XT (Aa (wl fun K hK=>?_))
 refine wb (.agg (H6 g t_ k d f l m)) hk hm fun a eo fo (df:Kn 31 [(a,0)] [tP 1 0 0,tA 0 (H6 g t_ k d f l m)] eo) d7=>hK _ _ ?_
 refine wl fun K hK=>?_
 refine wa H5 df d7 fun e ct fu (dm:Kn 31 [(a,0),(e,0)] [tP 2 1 0,tP 1 0 0,tA 0 (H6 g t_ k d f l m)] ct) bg=>hK _ _ ?_
 have dt:Kn 31 [(a,0),(e,0)] EE ct:=dm.kp
 refine wf (XT (Al (by kernel_rfl) ?_))
 replace bg:=bg.drew
 refine Am [] [(a,0),(e,0)] [⟨H6 g t_ k d f l m,some 75⟩,⟨H5,some 76⟩] ?_
 refine Dr [0,1,3,4] [4,3,1,0] (NT d t_ f g k) dt bg fun ez dw=>?_
 obtain⟨x7,ex7,H⟩:=Ao H
 obtain⟨x10,ex10,H⟩:=Ao H
 have cb:Kn 31 [(a,0),(e,0),(0,0)] (NT d t_ f g k) ez:=dw.push (0,0) (by kernel_rfl)
 have b1:=bg.addPlc (b:=0) (o:=0) (cs:=[]) (fun j c hj=>by simp at hj) rfl (by kernel_rfl) (by kernel_rfl)
 refine IV (e':=[(a,0),(e,0),(0,0)]) (pl':=[⟨H6 g t_ k d f l m,some 75⟩,⟨H5,some 76⟩,⟨[],none⟩]) (fun _ hp=>hp.pop (Nat.le_of_eq rfl) (by kernel_rfl)) ?_
 refine Ck (fun W=>∀ (p:Nat),∀ (q:Option Addr),∀ (u:Nat),∀ (s:Option Addr),∀ (x:Nat),∀ a' w',(∃ (bj:Array Value)(ah:Ad),a' = ⟨bj,[]⟩∧Kn 31 [(a,0),(e,0),(p,0)] ((tP 3 2 0)::(tA 11 [.slice q x7.length u,.slice s x10.length x,.slice none 0 0])::EE) bj∧Ah ⟨w,h,A5⟩ ah [(a,0),(e,0),(p,0)] (JR g t_ k d f l m) [] w'∧Ad.le h ah∧A0 ah q u x7∧A0 ah s x x10)→W [(a,0),(e,0),(p,0)] (JR g t_ k d f l m) [6,5,2,7,4,3,1,0] a' w') ?_ (fun cr=>?_)
 ·
  intro p q u s x
  rintro _ fx ⟨bj,ah,rfl,dx,d8,bt,a4,a5⟩
  replace ak:=ak.mono bt
  replace ae:=ae.mono bt
  replace ap:=ap.mono bt
  refine Cx 8 rfl (by kernel_rfl) (by decide) (rfl) (by kernel_rfl) fun K hK=>?_
  refine EA 2 0 (.agg [.slice q x7.length u,.slice s x10.length x,.slice none 0 0]) [.slice q x7.length u,.slice s x10.length x,.slice none 0 0] dx d8 fun e6 dy co=>hK _ _ ?_
  refine Am [] [(a,0),(e,0),(p,0)] [⟨H6 g t_ k d f l m,some 75⟩,⟨H5,some 76⟩,⟨[.slice q x7.length u,.slice s x10.length x,.slice none 0 0],some 76⟩] ?_
  have dz:Kn 31 [(a,0),(e,0),(p,0)] ((tP 3 2 0)::EE) bj:=dy.kp
  refine A1 (by kernel_rfl) (XT (XT (Aa (Rk 0 1 ((tI 4 0)::(tP 3 2 0)::EE) dz co fun fd d0=>?_))))
  refine wf ?_
  have d9:Ah ⟨w,h,A5⟩ ah [(a,0),(e,0),(p,0)] [⟨H6 g t_ k d f l m,some 75⟩,⟨H5,some 76⟩,⟨[.slice q x7.length u,.slice s x10.length x,.slice none 0 0],some 76⟩] [⟨none,0,0,31,1,[],0⟩] e6:=co.nilRow 31 1
  have c4:Ag ah ([]:List (List Int)) []:=Ag.nil
  obtain⟨z,b9,H⟩:=Ao H
  refine Aw (fun a' w'=>∃ (ab:Option Addr)(ad:Nat)(a6:List Value)(b6:Array Value)(bc:Ad),a' = ⟨b6,[]⟩∧Kn 31 [(a,0),(e,0),(p,0)] [tP 3 2 0,tP 2 1 0] b6∧Ah ⟨w,h,A5⟩ bc [(a,0),(e,0),(p,0)] [⟨H6 g t_ k d f l m,some 75⟩,⟨H5,some 76⟩,⟨[.slice q x7.length u,.slice s x10.length x,.slice ab z.length ad],some 76⟩] [⟨ab,z.length,ad,31,1,a6,0⟩] w'∧Ad.le ah bc∧Ag bc z a6) ?_ ?_
  ·
   refine wp_block ?_
   refine Au (fun el a' w'=>∃ (x_v10:List (List Int))(x_v11:Int)(aa:Option Addr)(ac:Nat)(ax:List Value)(b7:Array Value)(bd:Ad),a' = ⟨b7,[]⟩∧Kn 31 [(a,0),(e,0),(p,0)] ((tI 4 x_v11)::(tP 3 2 0)::EE) b7∧Ah ⟨w,h,A5⟩ bd [(a,0),(e,0),(p,0)] [⟨H6 g t_ k d f l m,some 75⟩,⟨H5,some 76⟩,⟨[.slice q x7.length u,.slice s x10.length x,.slice aa x_v10.length ac],some 76⟩] [⟨aa,x_v10.length,ac,31,1,ax,0⟩] w'∧Ad.le ah bd∧Ag bd x_v10 ax∧DD el t_ x_v10 x_v11=some z) n ?_ ?_
   ·
    exact XY ([]:List (List Int)) ⟨0,none,0,[],_,_,rfl,d0.kp,d9,Ad.le_refl _,c4,b9⟩
   ·
    rintro bi _ fy ⟨x_v10,x_v11,aa,ac,ax,b7,bd,rfl,d1,ao,an,be,y⟩
    clear b9
    obtain _ | bi:=bi
    ·
     rw [DD] at y; cases y
    rw [DD] at y
    replace ak:=ak.mono an
    replace ae:=ae.mono an
    replace ap:=ap.mono an
    replace a4:=a4.mono an
    replace a5:=a5.mono an
    refine XT (XT (Aa (Rk 0 5 ((tB 16 (decide (x_v11<((t_.legs.length:Nat):Int))))::(tI 4 x_v11)::(tP 3 2 0)::EE) d1 ao fun fe br=>?_)))
    refine wf (wC (decide (x_v11<((t_.legs.length:Nat):Int))) br (fun bo=>?_) (fun bo=>?_))
    ·
     rw [bo,XW] at y
     refine wp_skip (XT (wp_block (Al (by kernel_rfl) ?_)))
     replace ao:=ao.drew
     refine Am [] [(a,0),(e,0),(p,0)] [⟨H6 g t_ k d f l m,some 75⟩,⟨H5,some 76⟩,⟨[.slice q x7.length u,.slice s x10.length x,.slice aa x_v10.length ac],some 76⟩] ?_
     refine Dr [0,1,2,3,4] (dn 4) ((tI 23 x_v11)::(tS 22 l t_.legs.length m)::(tS 20 aa x_v10.length ac)::(tI 4 x_v11)::(tP 3 2 0)::EE) br ao fun ff d2=>?_
     obtain⟨x24,ex24,y⟩:=Ao y
     obtain⟨ea,eb,ek⟩:=Ai ex24
     obtain⟨au,aw,e7,c2,ej,c5⟩:=ap.get (by decide) ek
     obtain⟨al,am,rfl,eg⟩:=ej
     have b2:=ao.addPlc (b:=au) (o:=aw+(x_v11:Int).toNat*1) (cs:=[.slice al x24.length am]) (fun j c hj=>c5 j _ (Aj hj)) rfl (by kernel_rfl) (by kernel_rfl)
     refine A2 5 (x_v11) [.slice al x24.length am] (fun _ _ _ _ _ h=>h) rfl rfl (rfl) rfl (by decide) (by kernel_rfl) (by kernel_rfl) d2 ao.plOk (by rfl) (by rfl) (by rfl) c2 (by rfl) ea eb (by kernel_rfl) fun e1 (d3:Kn 31 [(a,0),(e,0),(p,0),(au,aw+(x_v11:Int).toNat*1)] ((tP 24 3 0)::(tI 23 x_v11)::(tS 22 l t_.legs.length m)::(tS 20 aa x_v10.length ac)::(tI 4 x_v11)::(tP 3 2 0)::EE) e1)=>?_
     refine Dr [6] (dn 6) ((tS 25 al x24.length am)::(tS 20 aa x_v10.length ac)::(tI 4 x_v11)::(tP 3 2 0)::EE) d3 b2 fun fg d4=>?_
     obtain⟨x26,ex26,y⟩:=Ao y
     refine Dl 7 fun K hK=>?_
     refine wc [.c (.slice al x24.length am)] d4 b2 (El bi b2.has x24 eg ex26) fun fl bn fz cz cg cp=>?_
     replace be:=be.mono cg
     obtain⟨af,ag,rfl,eh⟩:=cz
     refine⟨.one (.c (.slice af x26.length ag)),rfl,fun em (c7:Kn 31 [(a,0),(e,0),(p,0),(au,aw+(x_v11:Int).toNat*1)] ((tS 26 af x26.length ag)::(tS 25 al x24.length am)::(tS 20 aa x_v10.length ac)::(tI 4 x_v11)::(tP 3 2 0)::EE) em)=>hK _ _ cp.plOk ?_⟩
     refine Dl 8 fun K hK=>?_
     refine wS 31 1 [.slice af x26.length ag] c7 cp fun b8 en fm (c8:Kn 31 [(a,0),(e,0),(p,0),(au,aw+(x_v11:Int).toNat*1)] ((tS 27 b8 1 1)::(tS 26 af x26.length ag)::(tS 25 al x24.length am)::(tS 20 aa x_v10.length ac)::(tI 4 x_v11)::(tP 3 2 0)::EE) en) bu=>?_
     have bp:Ag bn ([x26]:List (List Int)) ([.slice af x26.length ag]:List Value):=⟨_,_,rfl,((Ae eh):rep bn (x26:List Int) _),rfl⟩
     refine hK _ _ bu.plOk ?_
     obtain⟨x28,ex28,y⟩:=Ao y
     obtain⟨b4,d5⟩:=AV ex28
     refine Dl 9 fun K hK=>?_
     refine AA 0 24 1 _ (x28.length) _ ([.slice af x26.length ag]:List Value) c8 bu rfl rfl (by decide) rfl (by rfl) (by kernel_rfl) (by rfl) (by rfl) (Ag.len bp) (bu.rowCell (i:=1) rfl) bp.one (by rw [b4]; simp <;> omega) (by rw [b4]; exact d5) (by decide) fun ay a1 cu ep fn c6 (c9:Kn 31 [(a,0),(e,0),(p,0),(au,aw+(x_v11:Int).toNat*1)] ((tS 28 ay x28.length a1)::(tS 27 b8 1 1)::(tS 26 af x26.length ag)::(tS 25 al x24.length am)::(tS 20 aa x_v10.length ac)::(tI 4 x_v11)::(tP 3 2 0)::EE) ep) bv=>?_
     have c3:Ag bn x28 (ax++([.slice af x26.length ag]:List Value)):=by rw [b4]; exact Ag.append be bp
     obtain rfl:cu=0:=Nat.le_zero.1 c6
     refine hK _ _ bv.plOk ?_
     refine Dr [10] (dn 10) ((tP 29 2 2)::(tS 28 ay x28.length a1)::(tI 4 x_v11)::(tP 3 2 0)::EE) c9 bv fun er da=>?_
     refine Cx 11 rfl (by kernel_rfl) (by decide) (rfl) (by kernel_rfl) fun K hK=>?_
     refine EA 2 2 (.c (.slice ay x28.length a1)) [.slice q x7.length u,.slice s x10.length x,.slice ay x28.length a1] da bv fun fp db ch=>hK _ _ ?_
     have dc:Kn 31 [(a,0),(e,0),(p,0),(au,aw+(x_v11:Int).toNat*1)] ((tI 4 x_v11)::(tP 3 2 0)::EE) er:=db.kp
     refine EH (by kernel_rfl) (Aa (Rk 0 3 ((tI 4 (IntKind.i64.wrap (x_v11+1)))::(tP 3 2 0)::EE) dc ch fun fa dd=>?_))
     refine wf ?_
     exact XY bi ⟨Nat.lt_succ_self _,XY x28 ⟨IntKind.i64.wrap (x_v11+1),ay,a1,ax++([.slice af x26.length ag]:List Value),_,_,rfl,(dd.keep [4,3,2,1] (by rfl)).cut 3 (by kernel_rfl),(ch.cutRw 1).cutPl 3 (by kernel_rfl),XU an cg,c3,y⟩⟩
    ·
     rw [bo,XV] at y
     refine wp_exit ?_
     obtain rfl:=XZ y
     exact XY aa ⟨ac,ax,_,_,rfl,br.kp,ao,an,be⟩
  ·
   rintro _ fq ⟨ab,ad,a6,b6,bc,rfl,de,ci,cc,bq⟩
   refine XT (Aa (Rk 0 1 [tA 30 [.slice q x7.length u,.slice s x10.length x,.slice ab z.length ad],tP 2 1 0] de ci fun es dg=>?_))
   refine wl fun K hK=>?_
   refine EA 1 0 (.agg [.slice q x7.length u,.slice s x10.length x,.slice ab z.length ad]) [.slice q x7.length u,.slice s x10.length x,.slice ab z.length ad] dg ci fun e2 dh cj=>hK _ _ ?_
   have di:Kn 31 [(a,0),(e,0),(p,0)] [tP 2 1 0] es:=dh.kp
   refine wf (wp_ret ?_)
   obtain⟨bm,bs,ei,bw⟩:=cj.settle (i:=0) rfl
   replace a4:=a4.mono (XU cc bs)
   replace a5:=a5.mono (XU cc bs)
   replace bq:=bq.mono bs
   replace bw:Ah ⟨w,h,A5⟩ bm [(a,0),(e,0),(p,0)] [⟨H6 g t_ k d f l m,some 75⟩,⟨[.slice q x7.length u,.slice s x10.length x,.slice ab z.length ad],some 76⟩,⟨[.slice q x7.length u,.slice s x10.length x,.slice ab z.length ad],some 76⟩] [⟨ab,z.length,ad,31,1,a6,(a6:List Value).length⟩] e2:=bw
   have ec:A0 bm ab ad z:=⟨_,bq,ei,cj.rowCap (i:=0) rfl⟩
   obtain rfl:=XZ H
   exact rt (.one (.agg [.slice q x7.length u,.slice s x10.length x,.slice ab z.length ad])) di bw ⟨_,rfl,((Ab (Ae a4) (Ab (Ae a5) (Ae ec))):rep bm ((Av.mk x7 x10 z):Av) _)⟩
 refine Ck (fun W=>∀ (ar:Nat),∀ (aq:Option Addr),∀ (av:Nat),∀ a' w',(∃ (b5:Array Value)(bb:Ad),a' = ⟨b5,[]⟩∧Kn 31 [(a,0),(e,0),(ar,0)] ((tP 3 2 0)::(tS 7 aq x7.length av)::(tS 9 d t_.turns.length f)::EE) b5∧Ah ⟨w,h,A5⟩ bb [(a,0),(e,0),(ar,0)] (JR g t_ k d f l m) [] w'∧Ad.le h bb∧A0 bb aq av x7)→W [(a,0),(e,0),(ar,0)] (JR g t_ k d f l m) [2,7,4,3,1,0] a' w') ?_ (fun cq=>?_)
 ·
  intro ar aq av
  rintro _ fr ⟨b5,bb,rfl,dj,ck,cd,b3⟩
  replace ae:=ae.mono cd
  refine Dl 5 fun K hK=>?_
  refine wc [.c (.slice d t_.turns.length f)] dj ck (El n ck.has t_.turns ae ex10) fun fh e8 fs cv ce bx=>?_
  replace b3:=b3.mono ce
  obtain⟨a7,ba,rfl,ed⟩:=cv
  refine⟨.one (.c (.slice a7 x10.length ba)),rfl,fun et (dk:Kn 31 [(a,0),(e,0),(ar,0)] ((tS 10 a7 x10.length ba)::(tP 3 2 0)::(tS 7 aq x7.length av)::(tS 9 d t_.turns.length f)::EE) et)=>hK _ _ bx.plOk ?_⟩
  refine Dr [6] [6,5,2,7,4,3,1,0] ((tA 11 [.slice aq x7.length av,.slice a7 x10.length ba,.slice none 0 0])::(tP 3 2 0)::EE) dk bx fun fb dl=>?_
  refine Ba [6,5,2,7,4,3,1,0] (by kernel_rfl) (by rfl) (cr ar aq av a7 ba _ _ ?_)
  exact XY _ ⟨_,rfl,dl.kp,bx,XU cd ce,b3,ed⟩
 refine Gk 2 7 rfl rfl (by kernel_rfl) (by decide) (rfl) (rfl) (fun K hK=>?_) (fun K hK=>?_)
 ·
  refine wc [.c (.slice g t_.tm.length k)] cb b1 (El n b1.has t_.tm ak ex7) fun fi c0 ft cw a3 bf=>?_
  replace ak:=ak.mono a3
  replace ae:=ae.mono a3
  replace ap:=ap.mono a3
  obtain⟨ai,aj,rfl,bh⟩:=cw
  refine⟨.one (.c (.slice ai x7.length aj)),rfl,fun eu (ca:Kn 31 [(a,0),(e,0),(0,0)] ((tS 7 ai x7.length aj)::(NT d t_ f g k)) eu)=>hK _ _ bf.plOk ?_⟩
  refine Gk 5 7 rfl rfl (by kernel_rfl) (by decide) (rfl) (rfl) (fun K hK=>?_) (fun K hK=>?_)
  ·
   refine wc [.c (.slice d t_.turns.length f)] ca bf (El n bf.has t_.turns ae ex10) fun fj c1 fv cx cf bz=>?_
   replace bh:=bh.mono cf
   obtain⟨az,a2,rfl,ee⟩:=cx
   refine⟨.one (.c (.slice az x10.length a2)),rfl,fun ev (dp:Kn 31 [(a,0),(e,0),(0,0)] ((tS 10 az x10.length a2)::(tS 7 ai x7.length aj)::(NT d t_ f g k)) ev)=>hK _ _ bz.plOk ?_⟩
   refine Dr [6] [6,5,2,4,3,1,0] ((tA 11 [.slice ai x7.length aj,.slice az x10.length a2,.slice none 0 0])::EE) dp bz fun fc dq=>?_
   refine Dl 7 fun K hK=>?_
   refine UO 2 H5 dq bz fun a8 ew e3 (dr:Kn 31 [(a,0),(e,0),(a8,0)] ((tP 3 2 0)::(tA 11 [.slice ai x7.length aj,.slice az x10.length a2,.slice none 0 0])::EE) ew) (cl:Ah ⟨w,h,A5⟩ c1 [(a,0),(e,0),(a8,0)] (JR g t_ k d f l m) [] e3)=>hK _ _ (A6.unset 2 rfl (by kernel_rfl) cl.plOk) (IV (e':=[(a,0),(e,0),(a8,0)]) (pl':=(JR g t_ k d f l m)) (fun _ hp=>hp.unset 2 rfl (by kernel_rfl)) ?_)
   refine Ba [6,5,2,7,4,3,1,0] (by kernel_rfl) (by rfl) (cr a8 ai aj az a2 _ _ ?_)
   exact XY _ ⟨_,rfl,dr.kp,cl,XU a3 cf,bh,ee⟩
  ·
   refine UO 2 H5 ca bf fun a9 ex e4 (ds:Kn 31 [(a,0),(e,0),(a9,0)] ((tP 3 2 0)::(tS 7 ai x7.length aj)::(NT d t_ f g k)) ex) (cm:Ah ⟨w,h,A5⟩ c0 [(a,0),(e,0),(a9,0)] (JR g t_ k d f l m) [] e4)=>hK _ _ (A6.unset 2 rfl (by kernel_rfl) cm.plOk) (IV (e':=[(a,0),(e,0),(a9,0)]) (pl':=(JR g t_ k d f l m)) (fun _ hp=>hp.unset 2 rfl (by kernel_rfl)) ?_)
   refine Ba [2,7,4,3,1,0] (by kernel_rfl) (by rfl) (cq a9 ai aj _ _ ?_)
   exact XY _ ⟨_,rfl,ds.kp,cm,a3,bh⟩
 ·
  refine UO 2 H5 cb b1 fun a0 ey e5 (du:Kn 31 [(a,0),(e,0),(a0,0)] ((tP 3 2 0)::(NT d t_ f g k)) ey) (b0:Ah ⟨w,h,A5⟩ h [(a,0),(e,0),(a0,0)] (JR g t_ k d f l m) [] e5)=>hK _ _ (A6.unset 2 rfl (by kernel_rfl) b0.plOk) (IV (e':=[(a,0),(e,0),(a0,0)]) (pl':=(JR g t_ k d f l m)) (fun _ hp=>hp.unset 2 rfl (by kernel_rfl)) ?_)
  refine Dl 2 fun K hK=>?_
  refine wc [.c (.slice g t_.tm.length k)] du b0 (El n b0.has t_.tm ak ex7) fun fk e9 fw cy d6 cn=>?_
  obtain⟨bk,bl,rfl,ef⟩:=cy
  refine⟨.one (.c (.slice bk x7.length bl)),rfl,fun e0 (dv:Kn 31 [(a,0),(e,0),(a0,0)] ((tS 7 bk x7.length bl)::(tP 3 2 0)::(NT d t_ f g k)) e0)=>hK _ _ cn.plOk ?_⟩
  refine Ba [2,7,4,3,1,0] (by kernel_rfl) (by rfl) (cq a0 bk bl _ _ ?_)
  exact XY _ ⟨_,rfl,dv.kp,cn,d6,ef⟩
end Go.Proofs.Ytokchpjijlebiaa
