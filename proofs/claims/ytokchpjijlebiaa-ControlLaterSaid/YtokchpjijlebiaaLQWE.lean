/- Each call computes its plain function. -/
import Derived.Test.YtokchpjijlebiaaProg
import Derived.Test.YtokchpjijlebiaaLQP0
import Derived.Test.YtokchpjijlebiaaLQWD
set_option linter.all false
namespace Go.Proofs.Ytokchpjijlebiaa
open Go Go.RowKit
open Rep (rep)
open KRep (kv)
open VRep (rv)
abbrev RL (x31:Rg):List SC:=[.int .i64 x31.lo,.int .i64 x31.hi]
abbrev RM (x57:Ce):List SC:=[.int .i64 x57.tm.lo,.int .i64 x57.tm.hi]
abbrev Ge (r_:Af):List SC:=[.int .i64 r_.turn.lo,.int .i64 r_.turn.hi]
abbrev DS:List SC:=[.slice none 0 0,.slice none 0 0,.slice none 0 0]
abbrev NX (x57:Ce):List SC:=[.int .i64 x57.stop,.int .i64 x57.tm.lo,.int .i64 x57.tm.hi]
abbrev Cq (e f g s u:Nat) (x_v13:Int):Be:=[(e,0),(f,0),(g,0),(s,u+(x_v13:Int).toNat*3)]
abbrev RN (k:Option Addr) (x_v10:List Int) (l:Nat) (a:Option Addr) (x_v11:List Int) (d:Nat) (ab:Option Addr) (x45:List (List Int)) (ad:Nat):List SC:=[.slice k x_v10.length l,.slice a x_v11.length d,.slice ab x45.length ad]
abbrev Eo (m:Option Addr) (r_:Af) (p:Nat) (x:Option Addr) (y:Nat) (ac:Option Addr) (ae:Nat):List SC:=[.slice m r_.legs.length p,.int .i64 r_.turn.lo,.int .i64 r_.turn.hi,.slice x r_.buses.length y,.slice ac r_.spares.length ae,.int .i64 r_.unit,.int .i64 r_.gap,.int .i64 r_.fr,.int .i64 r_.to_]
abbrev Jh (m:Option Addr) (r_:Af) (p:Nat) (x:Option Addr) (y:Nat) (ac:Option Addr) (ae:Nat) (k:Option Addr) (x_v10:List Int) (l:Nat) (a:Option Addr) (x_v11:List Int) (d:Nat) (ab:Option Addr) (x45:List (List Int)) (ad:Nat) (x57:Ce):List CI:=[⟨Eo m r_ p x y ac ae,some 28⟩,⟨DS,some 75⟩,⟨RN k x_v10 l a x_v11 d ab x45 ad,some 75⟩,⟨NX x57,none⟩]
abbrev BC (x_v13:Int) (a_words:Option Addr) (words:List (IK .u16)) (c_words:Nat):TM:=[tI 6 x_v13,tP 5 2 0,tP 4 1 0,tP 2 0 0,tS 1 a_words words.length c_words]
abbrev GY (x_v13:Int) (a_words:Option Addr) (words:List (IK .u16)) (c_words:Nat) (a:Option Addr) (x_v11:List Int) (d:Nat) (x57:Ce) (k:Option Addr) (x_v10:List Int) (l:Nat):TM:=(tI 74 (IntKind.i64.wrap ((IntKind.i64.wrap (9*x_v13))+8)))::(tS 71 a_words words.length c_words)::(tP 69 0 1)::(tS 68 a x_v11.length d)::(tI 63 (IntKind.i64.wrap ((IntKind.i64.wrap (9*x_v13))+7)))::(tS 60 a_words words.length c_words)::(tA 59 (RM x57))::(tS 53 k x_v10.length l)::(BC x_v13 a_words words c_words)
abbrev MH (r_:Af) (an:Option Addr) (x66:List Int) (ao:Nat) (x_v13:Int) (a_words:Option Addr) (words:List (IK .u16)) (c_words:Nat) (a:Option Addr) (x_v11:List Int) (d:Nat):TM:=(tA 70 (Ge r_))::(tP 78 2 0)::(tS 66 an x66.length ao)::(tI 74 (IntKind.i64.wrap ((IntKind.i64.wrap (9*x_v13))+8)))::(tS 71 a_words words.length c_words)::(tS 68 a x_v11.length d)::(BC x_v13 a_words words c_words)
abbrev MI (x_v13 x_v21:Int) (a_words:Option Addr) (words:List (IK .u16)) (c_words:Nat) (x31:Rg) (aq:Option Addr) (x_v20:List Int) (ar:Nat):TM:=(tI 37 (IntKind.i64.wrap ((IntKind.i64.wrap (9*x_v13))+x_v21)))::(tS 33 a_words words.length c_words)::(tA 32 (RL x31))::(tS 27 aq x_v20.length ar)::(tI 8 x_v21)::(BC x_v13 a_words words c_words)
abbrev MJ (x_v13:Int) (a_words:Option Addr) (words:List (IK .u16)) (c_words:Nat) (a:Option Addr) (x_v11:List Int) (d:Nat) (k:Option Addr) (x_v10:List Int) (l:Nat):TM:=(tI 74 (IntKind.i64.wrap ((IntKind.i64.wrap (9*x_v13))+8)))::(tS 71 a_words words.length c_words)::(tS 68 a x_v11.length d)::(tS 53 k x_v10.length l)::(BC x_v13 a_words words c_words)
set_option maxRecDepth 100000 in
set_option maxHeartbeats 4000000 in
theorem Ji (n:Nat) {h:Ad} {w:World} (hh:Dk h w) (r_:Af) {cs_r_:List Value} (hx_r_:rep h r_ cs_r_) (words:List (IK .u16)) {a_words:Option Addr} {c_words:Nat} (hr_words:A0 h a_words c_words words) {r:Av} (H:F6 n r_ words=some r) :
  Calls Try.prog 41 #[.agg cs_r_.toArray,.slice a_words words.length c_words] w (UN (fun h v rs=>∃ (di:Option Addr)(dq:Nat)(ej:List Value)(m:Option Addr)(dr:Nat)(ek:List Value)(dk:Option Addr)(p:Nat)(el:List Value),v=.agg #[.slice di r.tm.length dq,.slice m r.turns.length dr,.slice dk r.legs.length p]∧rs=[⟨di,r.tm.length,dq,3,1,ej,0⟩,⟨m,r.turns.length,dr,3,1,ek,0⟩,⟨dk,r.legs.length,p,31,1,el,0⟩]∧Ag h r.tm ej∧Ag h r.turns ek∧Ag h r.legs el) h w):=by
 obtain⟨_,_,rfl,⟨m,p,rfl,bb⟩,⟨_,_,rfl,⟨_,_,rfl,rfl,rfl⟩,⟨_,_,rfl,⟨x,y,rfl,bc⟩,⟨_,_,rfl,⟨ac,ae,rfl,bl⟩,⟨_,_,rfl,rfl,⟨_,_,rfl,rfl,⟨_,_,rfl,rfl,rfl⟩⟩⟩⟩⟩⟩⟩:=hx_r_
 refine enter 81 [.agg (Eo m r_ p x y ac ae),.c (.slice a_words words.length c_words)] Try.func41 rfl rfl rfl rfl fun t hk=>?_
 have hm:=Ah.begin h w hh
 unfold F6 at H
 refine XT (Aa (wl fun K hK=>?_))
 refine wb (.agg (Eo m r_ p x y ac ae)) hk hm fun e hy jm (fl:Kn 81 [(e,0)] [tP 2 0 0,tA 0 (Eo m r_ p x y ac ae),tS 1 a_words words.length c_words] hy) g8=>hK _ _ ?_
 refine wl fun K hK=>?_
 refine wa DS fl g8 fun f eh jr (fv:Kn 81 [(e,0),(f,0)] [tP 4 1 0,tP 2 0 0,tA 0 (Eo m r_ p x y ac ae),tS 1 a_words words.length c_words] eh) g9=>hK _ _ ?_
 have f0:Kn 81 [(e,0),(f,0)] [tP 4 1 0,tP 2 0 0,tS 1 a_words words.length c_words] eh:=fv.kp
 refine wf (XT (Aa (wl fun K hK=>?_)))
 refine wa DS f0 g9 fun g h7 dh (f5:Kn 81 [(e,0),(f,0),(g,0)] [tP 5 2 0,tP 4 1 0,tP 2 0 0,tS 1 a_words words.length c_words] h7) d7=>hK _ _ ?_
 refine wf (XT (XT (Aa (Rk 0 1 [tI 6 0,tP 5 2 0,tP 4 1 0,tP 2 0 0,tS 1 a_words words.length c_words] f5 d7 fun ja gc=>?_))))
 refine wf ?_
 have hb:Ah ⟨w,h,A5⟩ h [(e,0),(f,0),(g,0)] [⟨Eo m r_ p x y ac ae,some 28⟩,⟨DS,some 75⟩,⟨DS,some 75⟩] [⟨none,0,0,3,1,[],0⟩] dh:=d7.nilRow 3 1
 have e3:Ag h ([]:List Int) []:=Ag.nil
 have hd:Ah ⟨w,h,A5⟩ h [(e,0),(f,0),(g,0)] [⟨Eo m r_ p x y ac ae,some 28⟩,⟨DS,some 75⟩,⟨DS,some 75⟩] [⟨none,0,0,3,1,[],0⟩,⟨none,0,0,3,1,[],0⟩] dh:=hb.nilRow 3 1
 have e5:Ag h ([]:List Int) []:=Ag.nil
 have he:Ah ⟨w,h,A5⟩ h [(e,0),(f,0),(g,0)] [⟨Eo m r_ p x y ac ae,some 28⟩,⟨DS,some 75⟩,⟨DS,some 75⟩] [⟨none,0,0,3,1,[],0⟩,⟨none,0,0,3,1,[],0⟩,⟨none,0,0,31,1,[],0⟩] dh:=hd.nilRow 31 1
 have e7:Ag h ([]:List (List Int)) []:=Ag.nil
 obtain⟨ag,dt,H⟩:=Ao H
 refine Aw (fun a' w'=>∃ (a4:Option Addr)(a7:Nat)(de:List Value)(a5:Option Addr)(a8:Nat)(df:List Value)(a6:Option Addr)(a9:Nat)(dg:List Value)(c9:Array Value)(bh:Ad),a' = ⟨c9,[]⟩∧Kn 81 [(e,0),(f,0),(g,0)] [tP 5 2 0,tP 4 1 0] c9∧Ah ⟨w,h,A5⟩ bh [(e,0),(f,0),(g,0)] [⟨Eo m r_ p x y ac ae,some 28⟩,⟨DS,some 75⟩,⟨[.slice a4 ag.1.length a7,.slice a5 ag.2.1.length a8,.slice a6 ag.2.2.length a9],some 75⟩] [⟨a4,ag.1.length,a7,3,1,de,0⟩,⟨a5,ag.2.1.length,a8,3,1,df,0⟩,⟨a6,ag.2.2.length,a9,31,1,dg,0⟩] w'∧Ad.le h bh∧Ag bh ag.1 de∧Ag bh ag.2.1 df∧Ag bh ag.2.2 dg) ?_ ?_
 ·
  refine wp_block ?_
  refine Au (fun hw a' w'=>∃ (x_v10:List Int)(x_v11:List Int)(x_v12:List (List Int))(x_v13:Int)(k:Option Addr)(l:Nat)(ah:List Value)(a:Option Addr)(d:Nat)(ai:List Value)(ak:Option Addr)(al:Nat)(aj:List Value)(da:Array Value)(aw:Ad),a' = ⟨da,[]⟩∧Kn 81 [(e,0),(f,0),(g,0)] (BC x_v13 a_words words c_words) da∧Ah ⟨w,h,A5⟩ aw [(e,0),(f,0),(g,0)] [⟨Eo m r_ p x y ac ae,some 28⟩,⟨DS,some 75⟩,⟨[.slice k x_v10.length l,.slice a x_v11.length d,.slice ak x_v12.length al],some 75⟩] [⟨k,x_v10.length,l,3,1,ah,0⟩,⟨a,x_v11.length,d,3,1,ai,0⟩,⟨ak,x_v12.length,al,31,1,aj,0⟩] w'∧Ad.le h aw∧Ag aw x_v10 ah∧Ag aw x_v11 ai∧Ag aw x_v12 aj∧CM hw r_ words x_v10 x_v11 x_v12 x_v13=some ag) n ?_ ?_
  ·
   exact XY ([]:List Int) ⟨([]:List Int),([]:List (List Int)),0,none,0,[],none,0,[],none,0,[],_,_,rfl,gc.kp,he,Ad.le_refl _,e3,e5,e7,dt⟩
  ·
   rintro a2 _ ir ⟨x_v10,x_v11,x_v12,x_v13,k,l,ah,a,d,ai,ak,al,aj,da,aw,rfl,gw,bx,ba,av,ay,bi,af⟩
   clear dt
   obtain _ | a2:=a2
   ·
    rw [CM] at af; cases af
   rw [CM] at af
   replace bb:=bb.mono ba
   replace bc:=bc.mono ba
   replace bl:=bl.mono ba
   replace hr_words:=hr_words.mono ba
   refine XT (XT (Aa (Rk 0 9 ((tB 17 (decide (x_v13<(IntKind.i64.wrap (((r_.buses.length:Nat):Int)+((r_.spares.length:Nat):Int))))))::(BC x_v13 a_words words c_words)) gw bx fun jf cu=>?_)))
   refine wf (wC (decide (x_v13<(IntKind.i64.wrap (((r_.buses.length:Nat):Int)+((r_.spares.length:Nat):Int))))) cu (fun cl=>?_) (fun cl=>?_))
   ·
    rw [cl,XW] at af
    refine wp_skip (XT (wp_block (XT (Aa (Rk 0 1 ((tS 7 none 0 0)::(BC x_v13 a_words words c_words)) cu bx fun jg gx=>?_)))))
    refine wf (XT (XT (Aa (Rk 0 1 ((tI 8 0)::(tS 7 none 0 0)::(BC x_v13 a_words words c_words)) gx bx fun jh gy=>?_))))
    refine wf ?_
    have hg:Ah ⟨w,h,A5⟩ aw [(e,0),(f,0),(g,0)] [⟨Eo m r_ p x y ac ae,some 28⟩,⟨DS,some 75⟩,⟨[.slice k x_v10.length l,.slice a x_v11.length d,.slice ak x_v12.length al],some 75⟩] [⟨k,x_v10.length,l,3,1,ah,0⟩,⟨a,x_v11.length,d,3,1,ai,0⟩,⟨ak,x_v12.length,al,31,1,aj,0⟩,⟨none,0,0,3,1,[],0⟩] ir:=bx.nilRow 3 1
    have fb:Ag aw ([]:List Int) []:=Ag.nil
    obtain⟨q,du,af⟩:=Ao af
    refine Aw (fun a' w'=>∃ (z:Option Addr)(aa:Nat)(am:List Value)(db:Array Value)(b4:Ad),a' = ⟨db,[]⟩∧Kn 81 [(e,0),(f,0),(g,0)] ((tS 7 z q.length aa)::(BC x_v13 a_words words c_words)) db∧Ah ⟨w,h,A5⟩ b4 [(e,0),(f,0),(g,0)] [⟨Eo m r_ p x y ac ae,some 28⟩,⟨DS,some 75⟩,⟨[.slice k x_v10.length l,.slice a x_v11.length d,.slice ak x_v12.length al],some 75⟩] [⟨k,x_v10.length,l,3,1,ah,0⟩,⟨a,x_v11.length,d,3,1,ai,0⟩,⟨ak,x_v12.length,al,31,1,aj,0⟩,⟨z,q.length,aa,3,1,am,0⟩] w'∧Ad.le aw b4∧Ag b4 q am) ?_ ?_
    ·
     refine wp_block ?_
     refine Au (fun hx a' w'=>∃ (x_v20:List Int)(x_v21:Int)(aq:Option Addr)(ar:Nat)(bm:List Value)(dc:Array Value)(bt:Ad),a' = ⟨dc,[]⟩∧Kn 81 [(e,0),(f,0),(g,0)] ((tI 8 x_v21)::(tS 7 aq x_v20.length ar)::(BC x_v13 a_words words c_words)) dc∧Ah ⟨w,h,A5⟩ bt [(e,0),(f,0),(g,0)] [⟨Eo m r_ p x y ac ae,some 28⟩,⟨DS,some 75⟩,⟨[.slice k x_v10.length l,.slice a x_v11.length d,.slice ak x_v12.length al],some 75⟩] [⟨k,x_v10.length,l,3,1,ah,0⟩,⟨a,x_v11.length,d,3,1,ai,0⟩,⟨ak,x_v12.length,al,31,1,aj,0⟩,⟨aq,x_v20.length,ar,3,1,bm,0⟩] w'∧Ad.le aw bt∧Ag bt x_v20 bm∧Dh hx r_ words x_v13 x_v20 x_v21=some q) a2 ?_ ?_
     ·
      exact XY ([]:List Int) ⟨0,none,0,[],_,_,rfl,gy.kp,hg,Ad.le_refl _,fb,du⟩
     ·
      rintro cc _ j9 ⟨x_v20,x_v21,aq,ar,bm,dc,bt,rfl,gz,cb,az,b7,au⟩
      clear du
      obtain _ | cc:=cc
      ·
       rw [Dh] at au; cases au
      rw [Dh] at au
      replace bb:=bb.mono az
      replace bc:=bc.mono az
      replace bl:=bl.mono az
      replace hr_words:=hr_words.mono az
      replace av:=av.mono az
      replace ay:=ay.mono az
      replace bi:=bi.mono az
      refine XT (XT (Aa (Rk 0 5 ((tB 24 (decide (x_v21<((r_.legs.length:Nat):Int))))::(tI 8 x_v21)::(tS 7 aq x_v20.length ar)::(BC x_v13 a_words words c_words)) gz cb fun i1 cr=>?_)))
      refine wf (wC (decide (x_v21<((r_.legs.length:Nat):Int))) cr (fun cj=>?_) (fun cj=>?_))
      ·
       rw [cj,XW] at au
       refine wp_skip (XT (wp_block (Aa (Rk 0 4 ((tI 30 x_v21)::(tS 29 m r_.legs.length p)::(tS 27 aq x_v20.length ar)::(tI 8 x_v21)::(BC x_v13 a_words words c_words)) cr cb fun i2 fh=>?_))))
       obtain⟨x31,ex31,au⟩:=Ao au
       obtain⟨hl,ho,hu⟩:=Ai ex31
       obtain⟨bp,bz,iu,ew,hs,ey⟩:=bb.get (by decide) hu
       obtain⟨_,_,rfl,rfl,rfl⟩:=hs
       have cv:=cb.addPlc (b:=bp) (o:=bz+(x_v21:Int).toNat*2) (cs:=(RL x31)) (fun j c hj=>ey j _ (Aj hj)) rfl (by kernel_rfl) (by kernel_rfl)
       refine Bb 4 (x_v21) rfl rfl (rfl) rfl (by decide) fh (by rfl) (by rfl) (by rfl) ew (by rfl) hl ho (by kernel_rfl) fun hz (fi:Kn 81 [(e,0),(f,0),(g,0),(bp,bz+(x_v21:Int).toNat*2)] ((tP 31 3 0)::(tI 30 x_v21)::(tS 29 m r_.legs.length p)::(tS 27 aq x_v20.length ar)::(tI 8 x_v21)::(BC x_v13 a_words words c_words)) hz)=>?_
       refine Rk 5 6 (MI x_v13 x_v21 a_words words c_words x31 aq x_v20 ar) fi cv fun i3 fj=>?_
       obtain⟨x38,ex38,au⟩:=Ao au
       refine wl fun K hK=>?_
       refine wc [.agg (RL x31),.c (.slice a_words words.length c_words),.c (.int .i64 (IntKind.i64.wrap ((IntKind.i64.wrap (9*x_v13))+x_v21)))] fj cv (GX cc cv.has x31 ((Ab Ac Ac):rep bt x31 _) words hr_words (IntKind.i64.wrap ((IntKind.i64.wrap (9*x_v13))+x_v21)) ex38) fun ji cg jn es dy g7=>?_
       replace b7:=b7.mono dy
       obtain rfl:=es
       refine⟨.one (.c (.int .i64 x38)),rfl,fun h0 (fk:Kn 81 [(e,0),(f,0),(g,0),(bp,bz+(x_v21:Int).toNat*2)] ((tI 38 x38)::(MI x_v13 x_v21 a_words words c_words x31 aq x_v20 ar)) h0)=>hK _ _ ?_⟩
       refine wl fun K hK=>?_
       refine wS 3 1 [.int .i64 x38] fk g7 fun dj h1 jo (fm:Kn 81 [(e,0),(f,0),(g,0),(bp,bz+(x_v21:Int).toNat*2)] ((tS 39 dj 1 1)::(tI 38 x38)::(MI x_v13 x_v21 a_words words c_words x31 aq x_v20 ar)) h1) d0=>?_
       have cm:Ag cg ([x38]:List Int) ([.int .i64 x38]:List Value):=⟨_,_,rfl,(Ac:rep cg (x38:Int) _),rfl⟩
       refine hK _ _ ?_
       obtain⟨x40,ex40,au⟩:=Ao au
       obtain⟨c1,g0⟩:=AV ex40
       refine wl fun K hK=>?_
       refine AA 3 8 1 _ (x40.length) _ ([.int .i64 x38]:List Value) fm d0 rfl rfl (by decide) rfl (by rfl) (by kernel_rfl) (by rfl) (by rfl) (Ag.len cm) (d0.rowCell (i:=4) rfl) cm.one (by rw [c1]; simp <;> omega) (by rw [c1]; exact g0) (by decide) fun b0 b2 em h2 jp fc (fn:Kn 81 [(e,0),(f,0),(g,0),(bp,bz+(x_v21:Int).toNat*2)] ((tS 40 b0 x40.length b2)::(tS 39 dj 1 1)::(tI 38 x38)::(MI x_v13 x_v21 a_words words c_words x31 aq x_v20 ar)) h2) cw=>?_
       have ez:Ag cg x40 (bm++([.int .i64 x38]:List Value)):=by rw [c1]; exact Ag.append b7 cm
       obtain rfl:em=0:=Nat.le_zero.1 fc
       refine hK _ _ ?_
       refine Rk 14 1 ((tS 7 b0 x40.length b2)::(tI 8 x_v21)::(BC x_v13 a_words words c_words)) fn cw fun i4 fo=>?_
       refine wf (Aa (Rk 0 3 ((tI 8 (IntKind.i64.wrap (x_v21+1)))::(tS 7 b0 x40.length b2)::(BC x_v13 a_words words c_words)) fo cw fun i5 fp=>?_))
       refine wf ?_
       exact XY cc ⟨Nat.lt_succ_self _,XY x40 ⟨IntKind.i64.wrap (x_v21+1),b0,b2,bm++([.int .i64 x38]:List Value),_,_,rfl,(fp.keep [8,7,6,5,4,2,1] (by rfl)).cut 3 (by kernel_rfl),(cw.cutRw 4).cutPl 3 (by kernel_rfl),XU az dy,ez,au⟩⟩
      ·
       rw [cj,XV] at au
       refine wp_exit ?_
       obtain rfl:=XZ au
       exact XY aq ⟨ar,bm,_,_,rfl,cr.kp,cb,az,b7⟩
    ·
     rintro _ iq ⟨z,aa,am,db,b4,rfl,fq,cx,a0,cq⟩
     refine XT (Aa (Rk 0 3 ((tS 43 z q.length aa)::(tS 42 ak x_v12.length al)::(BC x_v13 a_words words c_words)) fq cx fun i6 fs=>?_))
     obtain⟨ap,ax,hr,cy⟩:=cx.settle (i:=3) rfl
     replace bb:=bb.mono (XU a0 ax)
     replace bc:=bc.mono (XU a0 ax)
     replace bl:=bl.mono (XU a0 ax)
     replace hr_words:=hr_words.mono (XU a0 ax)
     replace av:=av.mono (XU a0 ax)
     replace ay:=ay.mono (XU a0 ax)
     replace bi:=bi.mono (XU a0 ax)
     replace cq:=cq.mono ax
     replace cy:Ah ⟨w,h,A5⟩ ap [(e,0),(f,0),(g,0)] [⟨Eo m r_ p x y ac ae,some 28⟩,⟨DS,some 75⟩,⟨[.slice k x_v10.length l,.slice a x_v11.length d,.slice ak x_v12.length al],some 75⟩] [⟨k,x_v10.length,l,3,1,ah,0⟩,⟨a,x_v11.length,d,3,1,ai,0⟩,⟨ak,x_v12.length,al,31,1,aj,0⟩,⟨z,q.length,aa,3,1,am,(am:List Value).length⟩] iq:=cy
     have hq:A0 ap z aa q:=⟨_,cq,hr,cx.rowCap (i:=3) rfl⟩
     refine wl fun K hK=>?_
     refine wS 31 1 [.slice z q.length aa] fs cy fun a3 h3 jq (ft:Kn 81 [(e,0),(f,0),(g,0)] ((tS 44 a3 1 1)::(tS 43 z q.length aa)::(tS 42 ak x_v12.length al)::(BC x_v13 a_words words c_words)) h3) d1=>?_
     have cn:Ag ap ([q]:List (List Int)) ([.slice z q.length aa]:List Value):=⟨_,_,rfl,((Ae hq):rep ap (q:List Int) _),rfl⟩
     refine hK _ _ ?_
     obtain⟨x45,ex45,af⟩:=Ao af
     obtain⟨c2,g1⟩:=AV ex45
     refine wl fun K hK=>?_
     refine AA 2 24 1 _ (x45.length) _ ([.slice z q.length aa]:List Value) ft d1 rfl rfl (by decide) rfl (by rfl) (by kernel_rfl) (by rfl) (by rfl) (Ag.len cn) (d1.rowCell (i:=4) rfl) cn.one (by rw [c2]; simp <;> omega) (by rw [c2]; exact g1) (by decide) fun ab ad en h4 js fd (fu:Kn 81 [(e,0),(f,0),(g,0)] ((tS 45 ab x45.length ad)::(tS 44 a3 1 1)::(tS 43 z q.length aa)::(tS 42 ak x_v12.length al)::(BC x_v13 a_words words c_words)) h4) d2=>?_
     have b5:Ag ap x45 (aj++([.slice z q.length aa]:List Value)):=by rw [c2]; exact Ag.append bi cn
     obtain rfl:en=0:=Nat.le_zero.1 fd
     refine hK _ _ ?_
     refine Rk 5 1 ((tP 46 2 2)::(tS 45 ab x45.length ad)::(BC x_v13 a_words words c_words)) fu d2 fun h5 fw=>?_
     refine wl fun K hK=>?_
     refine EA 2 2 (.c (.slice ab x45.length ad)) (RN k x_v10 l a x_v11 d ab x45 ad) fw d2 fun ei fx a1=>hK _ _ ?_
     have fy:Kn 81 [(e,0),(f,0),(g,0)] (BC x_v13 a_words words c_words) h5:=fx.kp
     refine wf (XT (Aa (Rk 0 5 ((tB 51 (decide (x_v13<((r_.buses.length:Nat):Int))))::(BC x_v13 a_words words c_words)) fy a1 fun i7 ct=>?_)))
     refine wf (wC (decide (x_v13<((r_.buses.length:Nat):Int))) ct (fun ck=>?_) (fun ck=>?_))
     ·
      rw [ck,XW] at af
      refine Al (by kernel_rfl) ?_
      replace a1:=a1.drew
      refine Am [18] [(e,0),(f,0),(g,0)] [⟨Eo m r_ p x y ac ae,some 28⟩,⟨DS,some 75⟩,⟨RN k x_v10 l a x_v11 d ab x45 ad,some 75⟩] ?_
      refine Dr [0,1,2,3,4] (dn 4) ((tI 56 x_v13)::(tS 55 x r_.buses.length y)::(tS 53 k x_v10.length l)::(BC x_v13 a_words words c_words)) ct a1 fun i8 fz=>?_
      obtain⟨x57,ex57,af⟩:=Ao af
      obtain⟨hn,hp,hv⟩:=Ai ex57
      obtain⟨s,u,iv,ex,ht,e0⟩:=bc.get (by decide) hv
      obtain⟨_,_,rfl,rfl,⟨_,_,rfl,rfl,rfl⟩⟩:=ht
      have d3:=a1.addPlc (b:=s) (o:=u+(x_v13:Int).toNat*3) (cs:=(NX x57)) (fun j c hj=>e0 j _ (Aj hj)) rfl (by kernel_rfl) (by kernel_rfl)
      refine A2 5 (x_v13) (NX x57) (fun _ _ _ _ _ h=>h) rfl rfl (rfl) rfl (by decide) (by kernel_rfl) (by kernel_rfl) fz a1.plOk (by rfl) (by rfl) (by rfl) ex (by rfl) hn hp (by kernel_rfl) fun h6 (f1:Kn 81 (Cq e f g s u x_v13) ((tP 57 3 0)::(tI 56 x_v13)::(tS 55 x r_.buses.length y)::(tS 53 k x_v10.length l)::(BC x_v13 a_words words c_words)) h6)=>?_
      refine Dr [6,7,8,9,10,11,15,16,17,19,20,21,22] [22,21,20,19,17,16,15,11,10,9,8,7,6,5,4,3,2,1,0] (GY x_v13 a_words words c_words a x_v11 d x57 k x_v10 l) f1 d3 fun i9 dv=>?_
      obtain⟨x64,ex64,af⟩:=Ao af
      obtain⟨x66,ex66,af⟩:=Ao af
      obtain⟨x75,ex75,af⟩:=Ao af
      obtain⟨x77,ex77,af⟩:=Ao af
      have ha:Ah ⟨w,h,A5⟩ ap (Cq e f g s u x_v13) (Jh m r_ p x y ac ae k x_v10 l a x_v11 d ab x45 ad x57) [⟨k,x_v10.length,l,3,1,ah,0⟩,⟨a,x_v11.length,d,3,1,ai,0⟩,⟨ab,x45.length,ad,31,1,aj++([.slice z q.length aa]:List Value),0⟩,⟨z,q.length,aa,3,1,am,(am:List Value).length⟩,⟨a3,1,1,31,1,([.slice z q.length aa]:List Value),0⟩,⟨none,0,0,3,1,[],0⟩] (World.drew ei):=d3.nilRow 3 1
      have ix:Ag ap ([]:List Int) []:=Ag.nil
      have bj:Ah ⟨w,h,A5⟩ ap (Cq e f g s u x_v13) (Jh m r_ p x y ac ae k x_v10 l a x_v11 d ab x45 ad x57) [⟨k,x_v10.length,l,3,1,ah,0⟩,⟨a,x_v11.length,d,3,1,ai,0⟩,⟨ab,x45.length,ad,31,1,aj++([.slice z q.length aa]:List Value),0⟩,⟨z,q.length,aa,3,1,am,(am:List Value).length⟩,⟨a3,1,1,31,1,([.slice z q.length aa]:List Value),0⟩,⟨none,0,0,3,1,[],0⟩,⟨none,0,0,3,1,[],0⟩] (World.drew ei):=ha.nilRow 3 1
      have iy:Ag ap ([]:List Int) []:=Ag.nil
      refine Ck (fun W=>∀ (an:Option Addr),∀ (ao:Nat),∀ (cd:List Value),∀ (dl:Option Addr),∀ (ds:Nat),∀ (dd:List Value),∀ a' w',(∃ (c6:Array Value)(bg:Ad),a' = ⟨c6,[]⟩∧Kn 81 (Cq e f g s u x_v13) (MH r_ an x66 ao x_v13 a_words words c_words a x_v11 d) c6∧Ah ⟨w,h,A5⟩ bg (Cq e f g s u x_v13) (Jh m r_ p x y ac ae k x_v10 l a x_v11 d ab x45 ad x57) [⟨an,x66.length,ao,3,1,cd,0⟩,⟨a,x_v11.length,d,3,1,ai,0⟩,⟨ab,x45.length,ad,31,1,aj++([.slice z q.length aa]:List Value),0⟩,⟨z,q.length,aa,3,1,am,(am:List Value).length⟩,⟨a3,1,1,31,1,([.slice z q.length aa]:List Value),0⟩,⟨dl,1,ds,3,1,dd,0⟩,⟨none,0,0,3,1,[],0⟩] w'∧Ad.le ap bg∧Ag bg x66 cd∧Ag bg ([x64]:List Int) dd)→W (Cq e f g s u x_v13) (Jh m r_ p x y ac ae k x_v10 l a x_v11 d ab x45 ad x57) [26,14,13,12,18,22,21,20,19,17,16,15,11,10,9,8,7,6,5,4,3,2,1,0] a' w') ?_ (fun ee=>?_)
      ·
       intro an ao cd dl ds dd
       rintro _ jt ⟨c6,bg,rfl,f2,d4,b8,co,iz⟩
       replace hr_words:=hr_words.mono b8
       refine Dl 23 fun K hK=>?_
       refine wc [.agg (Ge r_),.c (.slice a_words words.length c_words),.c (.int .i64 (IntKind.i64.wrap ((IntKind.i64.wrap (9*x_v13))+8)))] f2 d4 (GX a2 d4.has r_.turn ((Ab Ac Ac):rep bg r_.turn _) words hr_words (IntKind.i64.wrap ((IntKind.i64.wrap (9*x_v13))+8)) ex75) fun jj ch ju et b9 d5=>?_
       replace co:=co.mono b9
       replace ay:=ay.mono (XU b8 b9)
       replace b5:=b5.mono (XU b8 b9)
       obtain rfl:=et
       refine⟨.one (.c (.int .i64 x75)),rfl,fun h8 (f3:Kn 81 (Cq e f g s u x_v13) ((tI 75 x75)::(MH r_ an x66 ao x_v13 a_words words c_words a x_v11 d)) h8)=>hK _ _ d5.plOk ?_⟩
       refine Dl 24 fun K hK=>?_
       refine By 6 rfl rfl 3 1 [.int .i64 x75] f3 d5 rfl rfl (by decide) (by kernel_rfl) (by rfl) (by rfl) rfl (by decide) fun dm h9 jv (f4:Kn 81 (Cq e f g s u x_v13) ((tS 76 dm 1 1)::(tI 75 x75)::(MH r_ an x66 ao x_v13 a_words words c_words a x_v11 d)) h9) cz=>?_
       have cp:Ag ch ([x75]:List Int) ([.int .i64 x75]:List Value):=⟨_,_,rfl,(Ac:rep ch (x75:Int) _),rfl⟩
       refine hK _ _ cz.plOk ?_
       refine Dl 25 fun K hK=>?_
       obtain⟨c3,g2⟩:=AV ex77
       refine AA 1 8 1 _ (x77.length) _ ([.int .i64 x75]:List Value) f4 cz rfl rfl (by decide) rfl (by rfl) (by kernel_rfl) (by rfl) (by rfl) (Ag.len cp) (cz.rowCell (i:=6) rfl) cp.one (by rw [c3]; simp <;> omega) (by rw [c3]; exact g2) (by decide) fun be bf eo ia jw fe (f6:Kn 81 (Cq e f g s u x_v13) ((tS 77 be x77.length bf)::(tS 76 dm 1 1)::(tI 75 x75)::(MH r_ an x66 ao x_v13 a_words words c_words a x_v11 d)) ia) d6=>?_
       have e1:Ag ch x77 (ai++([.int .i64 x75]:List Value)):=by rw [c3]; exact Ag.append ay cp
       obtain rfl:eo=0:=Nat.le_zero.1 fe
       refine hK _ _ d6.plOk ?_
       refine Cx 27 rfl (by kernel_rfl) (by decide) (rfl) (by kernel_rfl) fun K hK=>?_
       refine EA 2 0 (.c (.slice an x66.length ao)) [.slice an x66.length ao,.slice a x_v11.length d,.slice ab x45.length ad] f6 d6 fun jx f7 d8=>hK _ _ ?_
       refine Am [18] (Cq e f g s u x_v13) [⟨Eo m r_ p x y ac ae,some 28⟩,⟨DS,some 75⟩,⟨[.slice an x66.length ao,.slice a x_v11.length d,.slice ab x45.length ad],some 75⟩,⟨NX x57,none⟩] ?_
       refine Dr [28] [28,27,25,24,23,26,14,13,12,18,22,21,20,19,17,16,15,11,10,9,8,7,6,5,4,3,2,1,0] ((tP 79 2 1)::(tS 77 be x77.length bf)::(BC x_v13 a_words words c_words)) f7 d8 fun ib f8=>?_
       refine Cx 29 rfl (by kernel_rfl) (by decide) (rfl) (by kernel_rfl) fun K hK=>?_
       refine EA 2 1 (.c (.slice be x77.length bf)) [.slice an x66.length ao,.slice be x77.length bf,.slice ab x45.length ad] f8 d8 fun jy f9 d9=>hK _ _ ?_
       refine Am [18] (Cq e f g s u x_v13) [⟨Eo m r_ p x y ac ae,some 28⟩,⟨DS,some 75⟩,⟨[.slice an x66.length ao,.slice be x77.length bf,.slice ab x45.length ad],some 75⟩,⟨NX x57,none⟩] ?_
       have ga:Kn 81 (Cq e f g s u x_v13) (BC x_v13 a_words words c_words) ib:=f9.kp
       refine A1 (by kernel_rfl) (Aa (Rk 0 3 [tI 6 (IntKind.i64.wrap (x_v13+1)),tP 5 2 0,tP 4 1 0,tP 2 0 0,tS 1 a_words words.length c_words] ga d9 fun jb gb=>?_))
       refine wf ?_
       exact XY a2 ⟨Nat.lt_succ_self _,XY x66 ⟨x77,x45,IntKind.i64.wrap (x_v13+1),an,ao,cd,be,bf,ai++([.int .i64 x75]:List Value),ab,ad,aj++([.slice z q.length aa]:List Value),_,_,rfl,(gb.keep [6,5,4,2,1] (by rfl)).cut 3 (by kernel_rfl),(d9.cutRw 3).cutPl 3 (by kernel_rfl),XU ba (XU a0 (XU ax (XU b8 b9))),co,e1,b5,af⟩⟩
      refine Ck (fun W=>∀ (bn:Option Addr),∀ (bq:Nat),∀ (bd:List Value),∀ a' w',(∃ (c7:Array Value)(br:Ad),a' = ⟨c7,[]⟩∧Kn 81 (Cq e f g s u x_v13) ((tA 70 (Ge r_))::(tS 65 bn 1 bq)::(MJ x_v13 a_words words c_words a x_v11 d k x_v10 l)) c7∧Ah ⟨w,h,A5⟩ br (Cq e f g s u x_v13) (Jh m r_ p x y ac ae k x_v10 l a x_v11 d ab x45 ad x57) [⟨k,x_v10.length,l,3,1,ah,0⟩,⟨a,x_v11.length,d,3,1,ai,0⟩,⟨ab,x45.length,ad,31,1,aj++([.slice z q.length aa]:List Value),0⟩,⟨z,q.length,aa,3,1,am,(am:List Value).length⟩,⟨a3,1,1,31,1,([.slice z q.length aa]:List Value),0⟩,⟨bn,1,bq,3,1,bd,0⟩,⟨none,0,0,3,1,[],0⟩] w'∧Ad.le ap br∧Ag br ([x64]:List Int) bd)→W (Cq e f g s u x_v13) (Jh m r_ p x y ac ae k x_v10 l a x_v11 d ab x45 ad x57) [13,12,18,22,21,20,19,17,16,15,11,10,9,8,7,6,5,4,3,2,1,0] a' w') ?_ (fun ef=>?_)
      ·
       intro bn bq bd
       rintro _ jz ⟨c7,br,rfl,gd,ea,dz,b6⟩
       replace av:=av.mono dz
       refine Dl 14 fun K hK=>?_
       obtain⟨c4,g3⟩:=AV ex66
       refine AA 0 8 1 _ (x66.length) _ bd gd ea rfl rfl (by decide) rfl (by rfl) (by kernel_rfl) (by rfl) (by rfl) (Ag.len b6) (ea.rowCell (i:=5) rfl) b6.one (by rw [c4]; simp <;> omega) (by rw [c4]; exact g3) (by decide) fun ce cf ep ic j0 ff (gf:Kn 81 (Cq e f g s u x_v13) ((tS 66 ce x66.length cf)::(tA 70 (Ge r_))::(tS 65 bn 1 bq)::(MJ x_v13 a_words words c_words a x_v11 d k x_v10 l)) ic) c0=>?_
       have e2:Ag br x66 (ah++bd):=by rw [c4]; exact Ag.append av b6
       obtain rfl:ep=0:=Nat.le_zero.1 ff
       refine hK _ _ c0.plOk ?_
       refine Dr [26] [26,14,13,12,18,22,21,20,19,17,16,15,11,10,9,8,7,6,5,4,3,2,1,0] ((tP 78 2 0)::(tS 66 ce x66.length cf)::(tA 70 (Ge r_))::(tI 74 (IntKind.i64.wrap ((IntKind.i64.wrap (9*x_v13))+8)))::(tS 71 a_words words.length c_words)::(tS 68 a x_v11.length d)::(BC x_v13 a_words words c_words)) gf c0 fun jc gg=>?_
       refine Ba [26,14,13,12,18,22,21,20,19,17,16,15,11,10,9,8,7,6,5,4,3,2,1,0] (by kernel_rfl) (by rfl) (ee ce cf (ah++bd) bn bq bd _ _ ?_)
       exact XY _ ⟨_,rfl,gg.kp,c0,dz,e2,b6⟩
      refine Ck (fun W=>∀ a' w',(∃ (c8:Array Value)(bs:Ad),a' = ⟨c8,[]⟩∧Kn 81 (Cq e f g s u x_v13) ((tA 70 (Ge r_))::(tI 64 x64)::(MJ x_v13 a_words words c_words a x_v11 d k x_v10 l)) c8∧Ah ⟨w,h,A5⟩ bs (Cq e f g s u x_v13) (Jh m r_ p x y ac ae k x_v10 l a x_v11 d ab x45 ad x57) [⟨k,x_v10.length,l,3,1,ah,0⟩,⟨a,x_v11.length,d,3,1,ai,0⟩,⟨ab,x45.length,ad,31,1,aj++([.slice z q.length aa]:List Value),0⟩,⟨z,q.length,aa,3,1,am,(am:List Value).length⟩,⟨a3,1,1,31,1,([.slice z q.length aa]:List Value),0⟩,⟨none,0,0,3,1,[],0⟩,⟨none,0,0,3,1,[],0⟩] w'∧Ad.le ap bs)→W (Cq e f g s u x_v13) (Jh m r_ p x y ac ae k x_v10 l a x_v11 d ab x45 ad x57) [12,18,22,21,20,19,17,16,15,11,10,9,8,7,6,5,4,3,2,1,0] a' w') ?_ (fun eg=>?_)
      ·
       rintro _ j1 ⟨c8,bs,rfl,gh,hc,g5⟩
       refine Dl 13 fun K hK=>?_
       refine By 5 rfl rfl 3 1 [.int .i64 x64] gh hc rfl rfl (by decide) (by kernel_rfl) (by rfl) (by rfl) rfl (by decide) fun dp ie j2 (gi:Kn 81 (Cq e f g s u x_v13) ((tS 65 dp 1 1)::(tA 70 (Ge r_))::(tI 64 x64)::(MJ x_v13 a_words words c_words a x_v11 d k x_v10 l)) ie) eb=>?_
       have e4:Ag bs ([x64]:List Int) ([.int .i64 x64]:List Value):=⟨_,_,rfl,(Ac:rep bs (x64:Int) _),rfl⟩
       refine hK _ _ eb.plOk ?_
       refine Ba [13,12,18,22,21,20,19,17,16,15,11,10,9,8,7,6,5,4,3,2,1,0] (by kernel_rfl) (by rfl) (ef dp 1 ([.int .i64 x64]:List Value) _ _ ?_)
       exact XY _ ⟨_,rfl,gi.kp,eb,g5,e4⟩
      refine Gk 12 18 rfl rfl (by kernel_rfl) (by decide) (rfl) (rfl) (fun K hK=>?_) (fun K hK=>?_)
      ·
       refine wc [.agg (RM x57),.c (.slice a_words words.length c_words),.c (.int .i64 (IntKind.i64.wrap ((IntKind.i64.wrap (9*x_v13))+7)))] dv bj (GX a2 bj.has x57.tm ((Ab Ac Ac):rep ap x57.tm _) words hr_words (IntKind.i64.wrap ((IntKind.i64.wrap (9*x_v13))+7)) ex64) fun jk ci j3 eu ca bv=>?_
       replace av:=av.mono ca
       obtain rfl:=eu
       refine⟨.one (.c (.int .i64 x64)),rfl,fun ig (dw:Kn 81 (Cq e f g s u x_v13) ((tI 64 x64)::(GY x_v13 a_words words c_words a x_v11 d x57 k x_v10 l)) ig)=>hK _ _ bv.plOk ?_⟩
       refine Gk 13 18 rfl rfl (by kernel_rfl) (by decide) (rfl) (rfl) (fun K hK=>?_) (fun K hK=>?_)
       ·
        refine By 5 rfl rfl 3 1 [.int .i64 x64] dw bv rfl rfl (by decide) (by kernel_rfl) (by rfl) (by rfl) rfl (by decide) fun bo ih j4 (dx:Kn 81 (Cq e f g s u x_v13) ((tS 65 bo 1 1)::(tI 64 x64)::(GY x_v13 a_words words c_words a x_v11 d x57 k x_v10 l)) ih) bk=>?_
        have bu:Ag ci ([x64]:List Int) ([.int .i64 x64]:List Value):=⟨_,_,rfl,(Ac:rep ci (x64:Int) _),rfl⟩
        refine hK _ _ bk.plOk ?_
        refine Gk 14 18 rfl rfl (by kernel_rfl) (by decide) (rfl) (rfl) (fun K hK=>?_) (fun K hK=>?_)
        ·
         obtain⟨c5,g4⟩:=AV ex66
         refine AA 0 8 1 _ (x66.length) _ ([.int .i64 x64]:List Value) dx bk rfl rfl (by decide) rfl (by rfl) (by kernel_rfl) (by rfl) (by rfl) (Ag.len bu) (bk.rowCell (i:=5) rfl) bu.one (by rw [c5]; simp <;> omega) (by rw [c5]; exact g4) (by decide) fun b1 b3 er ii j5 fg (gj:Kn 81 (Cq e f g s u x_v13) ((tS 66 b1 x66.length b3)::(tS 65 bo 1 1)::(tI 64 x64)::(GY x_v13 a_words words c_words a x_v11 d x57 k x_v10 l)) ii) bw=>?_
         have e6:Ag ci x66 (ah++([.int .i64 x64]:List Value)):=by rw [c5]; exact Ag.append av bu
         obtain rfl:er=0:=Nat.le_zero.1 fg
         refine hK _ _ bw.plOk ?_
         refine Dr [26] [26,14,13,12,22,21,20,19,17,16,15,11,10,9,8,7,6,5,4,3,2,1,0] ((tP 78 2 0)::(tS 66 b1 x66.length b3)::(tI 74 (IntKind.i64.wrap ((IntKind.i64.wrap (9*x_v13))+8)))::(tS 71 a_words words.length c_words)::(tP 69 0 1)::(tS 68 a x_v11.length d)::(BC x_v13 a_words words c_words)) gj bw fun jd gk=>?_
         refine Dl 18 fun K hK=>?_
         refine Br gk bw.plOk rfl (by decide) (by kernel_rfl) fun ij (gl:Kn 81 (Cq e f g s u x_v13) ((tA 70 (Ge r_))::(tP 78 2 0)::(tS 66 b1 x66.length b3)::(tI 74 (IntKind.i64.wrap ((IntKind.i64.wrap (9*x_v13))+8)))::(tS 71 a_words words.length c_words)::(tP 69 0 1)::(tS 68 a x_v11.length d)::(BC x_v13 a_words words c_words)) ij)=>hK _ _ bw.plOk ?_
         refine Ba [26,14,13,12,18,22,21,20,19,17,16,15,11,10,9,8,7,6,5,4,3,2,1,0] (by kernel_rfl) (by rfl) (ee b1 b3 (ah++([.int .i64 x64]:List Value)) bo 1 ([.int .i64 x64]:List Value) _ _ ?_)
         exact XY _ ⟨_,rfl,gl.kp,bw,ca,e6,bu⟩
        ·
         refine Br dx bk.plOk rfl (by decide) (by kernel_rfl) fun ik (gm:Kn 81 (Cq e f g s u x_v13) ((tA 70 (Ge r_))::(tS 65 bo 1 1)::(tI 64 x64)::(GY x_v13 a_words words c_words a x_v11 d x57 k x_v10 l)) ik)=>hK _ _ bk.plOk ?_
         refine Ba [13,12,18,22,21,20,19,17,16,15,11,10,9,8,7,6,5,4,3,2,1,0] (by kernel_rfl) (by rfl) (ef bo 1 ([.int .i64 x64]:List Value) _ _ ?_)
         exact XY _ ⟨_,rfl,gm.kp,bk,ca,bu⟩
       ·
        refine Br dw bv.plOk rfl (by decide) (by kernel_rfl) fun il (gn:Kn 81 (Cq e f g s u x_v13) ((tA 70 (Ge r_))::(tI 64 x64)::(GY x_v13 a_words words c_words a x_v11 d x57 k x_v10 l)) il)=>hK _ _ bv.plOk ?_
        refine Ba [12,18,22,21,20,19,17,16,15,11,10,9,8,7,6,5,4,3,2,1,0] (by kernel_rfl) (by rfl) (eg _ _ ?_)
        exact XY _ ⟨_,rfl,gn.kp,bv,ca⟩
      ·
       refine Br dv bj.plOk rfl (by decide) (by kernel_rfl) fun im (go:Kn 81 (Cq e f g s u x_v13) ((tA 70 (Ge r_))::(GY x_v13 a_words words c_words a x_v11 d x57 k x_v10 l)) im)=>hK _ _ bj.plOk ?_
       refine Dl 12 fun K hK=>?_
       refine wc [.agg (RM x57),.c (.slice a_words words.length c_words),.c (.int .i64 (IntKind.i64.wrap ((IntKind.i64.wrap (9*x_v13))+7)))] go bj (GX a2 bj.has x57.tm ((Ab Ac Ac):rep ap x57.tm _) words hr_words (IntKind.i64.wrap ((IntKind.i64.wrap (9*x_v13))+7)) ex64) fun jl iw j6 ev g6 ec=>?_
       obtain rfl:=ev
       refine⟨.one (.c (.int .i64 x64)),rfl,fun io (gp:Kn 81 (Cq e f g s u x_v13) ((tI 64 x64)::(tA 70 (Ge r_))::(GY x_v13 a_words words c_words a x_v11 d x57 k x_v10 l)) io)=>hK _ _ ec.plOk ?_⟩
       refine Ba [12,18,22,21,20,19,17,16,15,11,10,9,8,7,6,5,4,3,2,1,0] (by kernel_rfl) (by rfl) (eg _ _ ?_)
       exact XY _ ⟨_,rfl,gp.kp,ec,g6⟩
     ·
      rw [ck,XV] at af
      refine wp_skip (Aa (Rk 0 3 [tI 6 (IntKind.i64.wrap (x_v13+1)),tP 5 2 0,tP 4 1 0,tP 2 0 0,tS 1 a_words words.length c_words] ct a1 fun je gq=>?_))
      refine wf ?_
      exact XY a2 ⟨Nat.lt_succ_self _,XY x_v10 ⟨x_v11,x45,IntKind.i64.wrap (x_v13+1),k,l,ah,a,d,ai,ab,ad,aj++([.slice z q.length aa]:List Value),_,_,rfl,gq.kp,a1.cutRw 3,XU ba (XU a0 ax),av,ay,b5,af⟩⟩
   ·
    rw [cl,XV] at af
    refine wp_exit ?_
    obtain rfl:=XZ af
    exact XY k ⟨l,ah,a,d,ai,ak,al,aj,_,_,rfl,cu.kp,bx,ba,av,ay,bi⟩
 ·
  rintro _ j7 ⟨a4,a7,de,a5,a8,df,a6,a9,dg,c9,bh,rfl,gr,ed,i0,e8,e9,fa⟩
  refine XT (Aa (Rk 0 1 [tA 80 [.slice a4 ag.1.length a7,.slice a5 ag.2.1.length a8,.slice a6 ag.2.2.length a9],tP 4 1 0] gr ed fun ip gs=>?_))
  refine wl fun K hK=>?_
  refine EA 1 0 (.agg [.slice a4 ag.1.length a7,.slice a5 ag.2.1.length a8,.slice a6 ag.2.2.length a9]) [.slice a4 ag.1.length a7,.slice a5 ag.2.1.length a8,.slice a6 ag.2.2.length a9] gs ed fun j8 gu hf=>hK _ _ ?_
  have gv:Kn 81 [(e,0),(f,0),(g,0)] [tP 4 1 0] ip:=gu.kp
  refine wf (wp_ret ?_)
  obtain rfl:=XZ H
  exact Uo (.one (.agg [.slice a4 ag.1.length a7,.slice a5 ag.2.1.length a8,.slice a6 ag.2.2.length a9])) [0,1,2] gv hf (by kernel_rfl) (by kernel_rfl) (by kernel_rfl) ⟨_,_,_,_,_,_,_,_,_,rfl,rfl,e8,e9,fa⟩
end Go.Proofs.Ytokchpjijlebiaa
