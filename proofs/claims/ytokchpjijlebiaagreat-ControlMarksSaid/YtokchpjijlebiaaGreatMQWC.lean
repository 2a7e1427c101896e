/- Each call computes its plain function. -/
import Derived.Test.YtokchpjijlebiaaGreatProg
import Derived.Test.YtokchpjijlebiaaGreatMQP0
import Derived.Test.YtokchpjijlebiaaGreatMQWA
import Derived.Test.YtokchpjijlebiaaGreatMQWB
set_option linter.all false
namespace Go.Proofs.YtokchpjijlebiaaGreat
open Go Go.RowKit
open Rep (rep)
open KRep (kv)
open VRep (rv)
abbrev GS (ag:Option Addr) (t_:Au) (al:Nat) (ah:Option Addr) (am:Nat) (ab:Option Addr) (ac:Nat):List SC:=[.slice ag t_.tm.length al,.slice ah t_.turns.length am,.slice ab t_.legs.length ac]
abbrev GT (ad:Option Addr) (a:Aw) (ai:Nat) (ae:Option Addr) (aj:Nat) (af:Option Addr) (ak:Nat):List SC:=[.slice ad a.holds.length ai,.slice ae a.turns.length aj,.slice af a.spares.length ak]
abbrev DW (k:Option Addr) (r_:Af) (l:Nat) (f:Option Addr) (g:Nat) (d:Option Addr) (e:Nat):List SC:=[.slice k r_.legs.length l,.int .i64 r_.turn.lo,.int .i64 r_.turn.hi,.slice f r_.buses.length g,.slice d r_.spares.length e,.int .i64 r_.unit,.int .i64 r_.gap,.int .i64 r_.fr,.int .i64 r_.to_]
abbrev Qu (m p q aq av:Nat) (x_v21:Int) (a3 a9 bb bh bm bx:Nat) (r_:Af):AT:=[(m,0),(p,0),(q,0),(aq,av+(x_v21:Int).toNat*1),(a3,a9+(x_v21:Int).toNat*2),(bb,bh+(x_v21:Int).toNat*2),(bm,bx+(IntKind.i64.wrap (((r_.buses.length:Nat):Int)+x_v21):Int).toNat*1)]
abbrev Qv (m p q an ap:Nat) (x_v11:Int) (ar aw ax az a2 a8 ba bf bl bw:Nat):AT:=[(m,0),(p,0),(q,0),(an,ap+(x_v11:Int).toNat*3),(ar,aw+(x_v11:Int).toNat*1),(ax,az+(x_v11:Int).toNat*1),(a2,a8+(x_v11:Int).toNat*1),(ba,bf+(x_v11:Int).toNat*1),(bl,bw+(x_v11:Int).toNat*1)]
abbrev Jw (x28 x33:Int) (r_:Af) (x22:C6) (k:Option Addr) (l:Nat) (f:Option Addr) (g:Nat) (d:Option Addr) (e:Nat) (s:Option Addr) (x_v10:List (List Int)) (u:Nat) (x_v11:Int):TM:=[tI 38 (IntKind.i64.wrap (x28+(IntKind.i64.wrap (x33*r_.unit)))),tI 24 x22.stop,tA 18 (DW k r_ l f g d e),tS 17 s x_v10.length u,tI 8 x_v11,tP 5 2 0,tP 4 1 0,tP 3 0 0]
abbrev Jx (k:Option Addr) (r_:Af) (l:Nat) (f:Option Addr) (g:Nat) (d:Option Addr) (e:Nat) (y:Option Addr) (x_v20:List (List Int)) (z:Nat) (x_v21:Int):TM:=[tA 70 (DW k r_ l f g d e),tS 69 y x_v20.length z,tI 9 x_v21,tP 5 2 0,tP 4 1 0,tP 3 0 0]
abbrev DX:TM:=[tP 5 2 0,tP 4 1 0,tP 3 0 0]
set_option maxRecDepth 100000 in
set_option maxHeartbeats 4000000 in
theorem Qa (n:Nat) {h:Ae} {w:World} (hh:C9 h w) (r_:Af) {cs_r_:List Value} (hx_r_:rep h r_ cs_r_) (a:Aw) {cs_a:List Value} (hx_a:rep h a cs_a) (t_:Au) {cs_t_:List Value} (hx_t_:rep h t_ cs_t_) {r:List (List Int)} (H:JV n r_ a t_=some r) :
  Calls Tryz.prog 46 #[.agg cs_r_.toArray,.agg cs_a.toArray,.agg cs_t_.toArray] w (CA (fun h v=>∃ a c,v=.slice a r.length c∧Az h a c r) h w):=by
 obtain⟨_,_,rfl,⟨k,l,rfl,be⟩,⟨_,_,rfl,⟨_,_,rfl,rfl,rfl⟩,⟨_,_,rfl,⟨f,g,rfl,a7⟩,⟨_,_,rfl,⟨d,e,rfl,ay⟩,⟨_,_,rfl,rfl,⟨_,_,rfl,rfl,⟨_,_,rfl,rfl,rfl⟩⟩⟩⟩⟩⟩⟩:=hx_r_
 obtain⟨_,_,rfl,⟨ad,ai,rfl,br⟩,⟨_,_,rfl,⟨ae,aj,rfl,bs⟩,⟨af,ak,rfl,bt⟩⟩⟩:=hx_a
 obtain⟨_,_,rfl,⟨ag,al,rfl,bu⟩,⟨_,_,rfl,⟨ah,am,rfl,bv⟩,⟨ab,ac,rfl,bd⟩⟩⟩:=hx_t_
 refine enter 96 [.agg (DW k r_ l f g d e),.agg (GT ad a ai ae aj af ak),.agg (GS ag t_ al ah am ab ac)] Tryz.func46 rfl rfl rfl rfl fun t hk=>?_
 have hm:=Ai.begin h w hh
 unfold JV at H
 refine XT (Aa (wl fun K hK=>?_))
 refine wb (.agg (DW k r_ l f g d e)) hk hm fun m hz jl (fh:Kn 96 [(m,0)] [tP 3 0 0,tA 0 (DW k r_ l f g d e),tA 1 (GT ad a ai ae aj af ak),tA 2 (GS ag t_ al ah am ab ac)] hz) f1=>hK _ _ ?_
 refine wl fun K hK=>?_
 refine wb (.agg (GT ad a ai ae aj af ak)) fh f1 fun p h3 jo (fo:Kn 96 [(m,0),(p,0)] [tP 4 1 0,tP 3 0 0,tA 0 (DW k r_ l f g d e),tA 1 (GT ad a ai ae aj af ak),tA 2 (GS ag t_ al ah am ab ac)] h3) f2=>hK _ _ ?_
 refine wl fun K hK=>?_
 refine wb (.agg (GS ag t_ al ah am ab ac)) fo f2 fun q h4 h7 (fp:Kn 96 [(m,0),(p,0),(q,0)] [tP 5 2 0,tP 4 1 0,tP 3 0 0,tA 0 (DW k r_ l f g d e),tA 1 (GT ad a ai ae aj af ak),tA 2 (GS ag t_ al ah am ab ac)] h4) cj=>hK _ _ ?_
 refine Rk 3 1 DX fp cj fun i7 fq=>?_
 refine wf (XT (Aa (Rk 0 1 ((tS 7 none 0 0)::DX) fq cj fun i8 fs=>?_)))
 refine wf (XT (XT (Aa (Rk 0 1 ((tI 8 0)::(tS 7 none 0 0)::DX) fs cj fun i9 ft=>?_))))
 refine wf ?_
 have f3:Ai ⟨w,h,A3⟩ h [(m,0),(p,0),(q,0)] [⟨DW k r_ l f g d e,some 28⟩,⟨GT ad a ai ae aj af ak,some 32⟩,⟨GS ag t_ al ah am ab ac,some 38⟩] [⟨none,0,0,29,1,[],0⟩] h7:=cj.nilRow 29 1
 have eh:Ag h ([]:List (List Int)) []:=Ag.nil
 obtain⟨b1,dk,H⟩:=Am H
 refine Ap (fun a' w'=>∃ (b3:Option Addr)(b4:Nat)(cl:List Value)(df:Array Value)(b0:Ae),a' = ⟨df,[]⟩∧Kn 96 [(m,0),(p,0),(q,0)] ((tS 7 b3 b1.length b4)::DX) df∧Ai ⟨w,h,A3⟩ b0 [(m,0),(p,0),(q,0)] [⟨DW k r_ l f g d e,some 28⟩,⟨GT ad a ai ae aj af ak,some 32⟩,⟨GS ag t_ al ah am ab ac,some 38⟩] [⟨b3,b1.length,b4,29,1,cl,0⟩] w'∧Ae.le h b0∧Ag b0 b1 cl) ?_ ?_
 ·
  refine wp_block ?_
  refine An (fun hl a' w'=>∃ (x_v10:List (List Int))(x_v11:Int)(s:Option Addr)(u:Nat)(b2:List Value)(dg:Array Value)(b6:Ae),a' = ⟨dg,[]⟩∧Kn 96 [(m,0),(p,0),(q,0)] ((tI 8 x_v11)::(tS 7 s x_v10.length u)::DX) dg∧Ai ⟨w,h,A3⟩ b6 [(m,0),(p,0),(q,0)] [⟨DW k r_ l f g d e,some 28⟩,⟨GT ad a ai ae aj af ak,some 32⟩,⟨GS ag t_ al ah am ab ac,some 38⟩] [⟨s,x_v10.length,u,29,1,b2,0⟩] w'∧Ae.le h b6∧Ag b6 x_v10 b2∧E4 hl r_ a t_ x_v10 x_v11=some b1) n ?_ ?_
  ·
   exact XY ([]:List (List Int)) ⟨0,none,0,[],_,_,rfl,ft.kp,f3,Ae.le_refl _,eh,dk⟩
  ·
   rintro ck _ jp ⟨x_v10,x_v11,s,u,b2,dg,b6,rfl,fu,bq,au,cf,x⟩
   clear dk
   obtain _ | ck:=ck
   ·
    rw [E4] at x; cases x
   rw [E4] at x
   replace be:=be.mono au
   replace a7:=a7.mono au
   replace ay:=ay.mono au
   replace br:=br.mono au
   replace bs:=bs.mono au
   replace bt:=bt.mono au
   replace bu:=bu.mono au
   replace bv:=bv.mono au
   replace bd:=bd.mono au
   refine XT (XT (Aa (Rk 0 5 ((tB 14 (decide (x_v11<((r_.buses.length:Nat):Int))))::(tI 8 x_v11)::(tS 7 s x_v10.length u)::DX) fu bq fun ja cx=>?_)))
   refine wf (wC (decide (x_v11<((r_.buses.length:Nat):Int))) cx (fun cq=>?_) (fun cq=>?_))
   ·
    rw [cq,XW] at x
    refine wp_skip (XT (wp_block (Al (by kernel_rfl) ?_)))
    replace bq:=bq.drew
    refine Ao [] [(m,0),(p,0),(q,0)] [⟨DW k r_ l f g d e,some 28⟩,⟨GT ad a ai ae aj af ak,some 32⟩,⟨GS ag t_ al ah am ab ac,some 38⟩] ?_
    refine Dr [0,1,2,3,4] (dn 4) ((tI 21 x_v11)::(tS 20 f r_.buses.length g)::(tA 18 (DW k r_ l f g d e))::(tS 17 s x_v10.length u)::(tI 8 x_v11)::DX) cx bq fun jb fv=>?_
    obtain⟨x22,ex22,x⟩:=Am x
    obtain⟨gc,gn,hf⟩:=Ah ex22
    obtain⟨an,ap,ii,d5,g4,ej⟩:=a7.get (by decide) hf
    obtain⟨_,_,rfl,rfl,⟨_,_,rfl,rfl,rfl⟩⟩:=g4
    have da:=bq.addPlc (b:=an) (o:=ap+(x_v11:Int).toNat*3) (cs:=[.int .i64 x22.stop,.int .i64 x22.tm.lo,.int .i64 x22.tm.hi]) (fun j c hj=>ej j _ (Aj hj)) rfl (by kernel_rfl) (by kernel_rfl)
    refine At 5 (x_v11) [.int .i64 x22.stop,.int .i64 x22.tm.lo,.int .i64 x22.tm.hi] (fun _ _ _ _ _ h=>h) rfl rfl (rfl) rfl (by decide) (by kernel_rfl) (by kernel_rfl) fv bq.plOk (by rfl) (by rfl) (by rfl) d5 (by rfl) gc gn (by kernel_rfl) fun h5 (fw:Kn 96 [(m,0),(p,0),(q,0),(an,ap+(x_v11:Int).toNat*3)] ((tP 22 3 0)::(tI 21 x_v11)::(tS 20 f r_.buses.length g)::(tA 18 (DW k r_ l f g d e))::(tS 17 s x_v10.length u)::(tI 8 x_v11)::DX) h5)=>?_
    refine Dr [6,7,8,9,10] (dn 10) ((tI 27 x_v11)::(tS 26 ag t_.tm.length al)::(tI 24 x22.stop)::(tA 18 (DW k r_ l f g d e))::(tS 17 s x_v10.length u)::(tI 8 x_v11)::DX) fw da fun jc fx=>?_
    obtain⟨x28,ex28,x⟩:=Am x
    obtain⟨gd,go,g6⟩:=Ah ex28
    obtain⟨ar,aw,ij,d6,g5,ek⟩:=bu.get (by decide) g6
    obtain rfl:=g5
    have cy:=da.addPlc (b:=ar) (o:=aw+(x_v11:Int).toNat*1) (cs:=[.int .i64 x28]) (fun j c hj=>ek j _ (Aj hj)) rfl (by kernel_rfl) (by kernel_rfl)
    refine At 11 (x_v11) [.int .i64 x28] (fun _ _ _ _ _ h=>h) rfl rfl (rfl) rfl (by decide) (by kernel_rfl) (by kernel_rfl) fx da.plOk (by rfl) (by rfl) (by rfl) d6 (by rfl) gd go (by kernel_rfl) fun hn (en:Kn 96 [(m,0),(p,0),(q,0),(an,ap+(x_v11:Int).toNat*3),(ar,aw+(x_v11:Int).toNat*1)] ((tP 28 4 0)::(tI 27 x_v11)::(tS 26 ag t_.tm.length al)::(tI 24 x22.stop)::(tA 18 (DW k r_ l f g d e))::(tS 17 s x_v10.length u)::(tI 8 x_v11)::DX) hn)=>?_
    refine Dr [12,13,14,15] (dn 15) ((tI 32 x_v11)::(tS 31 ad a.holds.length ai)::(tI 29 x28)::(tI 24 x22.stop)::(tA 18 (DW k r_ l f g d e))::(tS 17 s x_v10.length u)::(tI 8 x_v11)::DX) en cy fun il eo=>?_
    obtain⟨x33,ex33,x⟩:=Am x
    obtain⟨f4,gf,g7⟩:=Ah ex33
    obtain⟨ax,az,h8,dx,gw,d7⟩:=br.get (by decide) g7
    obtain rfl:=gw
    have cz:=cy.addPlc (b:=ax) (o:=az+(x_v11:Int).toNat*1) (cs:=[.int .i64 x33]) (fun j c hj=>d7 j _ (Aj hj)) rfl (by kernel_rfl) (by kernel_rfl)
    refine At 16 (x_v11) [.int .i64 x33] (fun _ _ _ _ _ h=>h) rfl rfl (rfl) rfl (by decide) (by kernel_rfl) (by kernel_rfl) eo cy.plOk (by rfl) (by rfl) (by rfl) dx (by rfl) f4 gf (by kernel_rfl) fun ho (ep:Kn 96 [(m,0),(p,0),(q,0),(an,ap+(x_v11:Int).toNat*3),(ar,aw+(x_v11:Int).toNat*1),(ax,az+(x_v11:Int).toNat*1)] ((tP 33 5 0)::(tI 32 x_v11)::(tS 31 ad a.holds.length ai)::(tI 29 x28)::(tI 24 x22.stop)::(tA 18 (DW k r_ l f g d e))::(tS 17 s x_v10.length u)::(tI 8 x_v11)::DX) ho)=>?_
    refine Dr [17,18,19,20,21,22,23,24] (dn 24) ((tI 41 x_v11)::(tS 40 ae a.turns.length aj)::(Jw x28 x33 r_ x22 k l f g d e s x_v10 u x_v11)) ep cz fun im er=>?_
    obtain⟨x42,ex42,x⟩:=Am x
    obtain⟨f5,gg,g8⟩:=Ah ex42
    obtain⟨a2,a8,h9,dy,gx,d8⟩:=bs.get (by decide) g8
    obtain rfl:=gx
    have c0:=cz.addPlc (b:=a2) (o:=a8+(x_v11:Int).toNat*1) (cs:=[.int .i64 x42]) (fun j c hj=>d8 j _ (Aj hj)) rfl (by kernel_rfl) (by kernel_rfl)
    refine At 25 (x_v11) [.int .i64 x42] (fun _ _ _ _ _ h=>h) rfl rfl (rfl) rfl (by decide) (by kernel_rfl) (by kernel_rfl) er cz.plOk (by rfl) (by rfl) (by rfl) dy (by rfl) f5 gg (by kernel_rfl) fun hp (es:Kn 96 [(m,0),(p,0),(q,0),(an,ap+(x_v11:Int).toNat*3),(ar,aw+(x_v11:Int).toNat*1),(ax,az+(x_v11:Int).toNat*1),(a2,a8+(x_v11:Int).toNat*1)] ((tP 42 6 0)::(tI 41 x_v11)::(tS 40 ae a.turns.length aj)::(Jw x28 x33 r_ x22 k l f g d e s x_v10 u x_v11)) hp)=>?_
    refine Dr [26,27,28,29] (dn 29) ((tI 46 x_v11)::(tS 45 ah t_.turns.length am)::(tI 43 x42)::(Jw x28 x33 r_ x22 k l f g d e s x_v10 u x_v11)) es c0 fun io et=>?_
    obtain⟨x47,ex47,x⟩:=Am x
    obtain⟨f6,gh,g9⟩:=Ah ex47
    obtain⟨ba,bf,ia,dz,gy,d9⟩:=bv.get (by decide) g9
    obtain rfl:=gy
    have c1:=c0.addPlc (b:=ba) (o:=bf+(x_v11:Int).toNat*1) (cs:=[.int .i64 x47]) (fun j c hj=>d9 j _ (Aj hj)) rfl (by kernel_rfl) (by kernel_rfl)
    refine At 30 (x_v11) [.int .i64 x47] (fun _ _ _ _ _ h=>h) rfl rfl (rfl) rfl (by decide) (by kernel_rfl) (by kernel_rfl) et c0.plOk (by rfl) (by rfl) (by rfl) dz (by rfl) f6 gh (by kernel_rfl) fun hq (eu:Kn 96 [(m,0),(p,0),(q,0),(an,ap+(x_v11:Int).toNat*3),(ar,aw+(x_v11:Int).toNat*1),(ax,az+(x_v11:Int).toNat*1),(a2,a8+(x_v11:Int).toNat*1),(ba,bf+(x_v11:Int).toNat*1)] ((tP 47 7 0)::(tI 46 x_v11)::(tS 45 ah t_.turns.length am)::(tI 43 x42)::(Jw x28 x33 r_ x22 k l f g d e s x_v10 u x_v11)) hq)=>?_
    refine Dr [31,32,33,34] (dn 34) ((tI 51 x_v11)::(tS 50 ab t_.legs.length ac)::(tI 48 x47)::(tI 43 x42)::(Jw x28 x33 r_ x22 k l f g d e s x_v10 u x_v11)) eu c1 fun ip ev=>?_
    obtain⟨x52,ex52,x⟩:=Am x
    obtain⟨f7,gi,ha⟩:=Ah ex52
    obtain⟨bl,bw,ib,d0,gz,ea⟩:=bd.get (by decide) ha
    obtain⟨bi,bn,rfl,gp⟩:=gz
    have c2:=c1.addPlc (b:=bl) (o:=bw+(x_v11:Int).toNat*1) (cs:=[.slice bi x52.length bn]) (fun j c hj=>ea j _ (Aj hj)) rfl (by kernel_rfl) (by kernel_rfl)
    refine At 35 (x_v11) [.slice bi x52.length bn] (fun _ _ _ _ _ h=>h) rfl rfl (rfl) rfl (by decide) (by kernel_rfl) (by kernel_rfl) ev c1.plOk (by rfl) (by rfl) (by rfl) d0 (by rfl) f7 gi (by kernel_rfl) fun hr (ew:Kn 96 (Qv m p q an ap x_v11 ar aw ax az a2 a8 ba bf bl bw) ((tP 52 8 0)::(tI 51 x_v11)::(tS 50 ab t_.legs.length ac)::(tI 48 x47)::(tI 43 x42)::(Jw x28 x33 r_ x22 k l f g d e s x_v10 u x_v11)) hr)=>?_
    refine Dr [36] (dn 36) ((tS 53 bi x52.length bn)::(tI 48 x47)::(tI 43 x42)::(Jw x28 x33 r_ x22 k l f g d e s x_v10 u x_v11)) ew c2 fun iq ex=>?_
    obtain⟨x54,ex54,x⟩:=Am x
    refine Dl 37 fun K hK=>?_
    refine wc [.agg (DW k r_ l f g d e),.c (.int .i64 x22.stop),.c (.int .i64 (IntKind.i64.wrap (x28+(IntKind.i64.wrap (x33*r_.unit))))),.c (.int .i64 x42),.c (.int .i64 x47),.c (.slice bi x52.length bn)] ex c2 (Jv ck c2.has r_ ((Ab (Ad be) (Ab (Ab Ac Ac) (Ab (Ad a7) (Ab (Ad ay) (Ab Ac (Ab Ac (Ab Ac Ac))))))):rep b6 r_ _) x22.stop (IntKind.i64.wrap (x28+(IntKind.i64.wrap (x33*r_.unit)))) x42 x47 x52 gp ex54) fun jd cm jf dv dm dq=>?_
    replace cf:=cf.mono dm
    obtain⟨a0,a4,rfl,gq⟩:=dv
    refine⟨.one (.c (.slice a0 x54.length a4)),rfl,fun hs (ey:Kn 96 (Qv m p q an ap x_v11 ar aw ax az a2 a8 ba bf bl bw) ((tS 54 a0 x54.length a4)::(tS 53 bi x52.length bn)::(tI 48 x47)::(tI 43 x42)::(Jw x28 x33 r_ x22 k l f g d e s x_v10 u x_v11)) hs)=>hK _ _ dq.plOk ?_⟩
    refine Dl 38 fun K hK=>?_
    refine wS 29 1 [.slice a0 x54.length a4] ey dq fun dh ht jg (ez:Kn 96 (Qv m p q an ap x_v11 ar aw ax az a2 a8 ba bf bl bw) ((tS 55 dh 1 1)::(tS 54 a0 x54.length a4)::(tS 53 bi x52.length bn)::(tI 48 x47)::(tI 43 x42)::(Jw x28 x33 r_ x22 k l f g d e s x_v10 u x_v11)) ht) c3=>?_
    have cr:Ag cm ([x54]:List (List Int)) ([.slice a0 x54.length a4]:List Value):=⟨_,_,rfl,((Ad gq):rep cm (x54:List Int) _),rfl⟩
    refine hK _ _ c3.plOk ?_
    obtain⟨x56,ex56,x⟩:=Am x
    obtain⟨db,fy⟩:=AU ex56
    refine Dl 39 fun K hK=>?_
    refine AG 0 24 1 _ (x56.length) _ ([.slice a0 x54.length a4]:List Value) ez c3 rfl rfl (by decide) rfl (by rfl) (by kernel_rfl) (by rfl) (by rfl) (Ag.len cr) (c3.rowCell (i:=1) rfl) cr.one (by rw [db]; simp <;> omega) (by rw [db]; exact fy) (by decide) fun ca cc dt hu jh el (e0:Kn 96 (Qv m p q an ap x_v11 ar aw ax az a2 a8 ba bf bl bw) ((tS 56 ca x56.length cc)::(tS 55 dh 1 1)::(tS 54 a0 x54.length a4)::(tS 53 bi x52.length bn)::(tI 48 x47)::(tI 43 x42)::(Jw x28 x33 r_ x22 k l f g d e s x_v10 u x_v11)) hu) cg=>?_
    have eb:Ag cm x56 (b2++([.slice a0 x54.length a4]:List Value)):=by rw [db]; exact Ag.append cf cr
    obtain rfl:dt=0:=Nat.le_zero.1 el
    refine hK _ _ cg.plOk ?_
    refine Dr [40] (dn 40) ((tS 7 ca x56.length cc)::(tI 8 x_v11)::DX) e0 cg fun ir e1=>?_
    refine Ay (by kernel_rfl) (Aa (Rk 0 3 ((tI 8 (IntKind.i64.wrap (x_v11+1)))::(tS 7 ca x56.length cc)::DX) e1 cg fun iu e2=>?_))
    refine wf ?_
    exact XY ck ⟨Nat.lt_succ_self _,XY x56 ⟨IntKind.i64.wrap (x_v11+1),ca,cc,b2++([.slice a0 x54.length a4]:List Value),_,_,rfl,(e2.keep [8,7,5,4,3] (by rfl)).cut 3 (by kernel_rfl),(cg.cutRw 1).cutPl 3 (by kernel_rfl),XU au dm,eb,x⟩⟩
   ·
    rw [cq,XV] at x
    refine wp_exit ?_
    obtain rfl:=XZ x
    exact XY s ⟨u,b2,_,_,rfl,cx.kp,bq,au,cf⟩
 ·
  rintro _ ji ⟨b3,b4,cl,df,b0,rfl,e3,dr,a6,ei⟩
  replace be:=be.mono a6
  replace a7:=a7.mono a6
  replace ay:=ay.mono a6
  replace br:=br.mono a6
  replace bs:=bs.mono a6
  replace bt:=bt.mono a6
  replace bu:=bu.mono a6
  replace bv:=bv.mono a6
  replace bd:=bd.mono a6
  refine XT (XT (Aa (Rk 0 1 ((tI 9 0)::(tS 7 b3 b1.length b4)::DX) e3 dr fun iv e4=>?_)))
  refine wf ?_
  obtain⟨bg,dj,H⟩:=Am H
  refine Ap (fun a' w'=>∃ (bj:Option Addr)(bo:Nat)(b9:List Value)(dd:Array Value)(ce:Ae),a' = ⟨dd,[]⟩∧Kn 96 [(m,0),(p,0),(q,0)] [tS 7 bj bg.length bo] dd∧Ai ⟨w,h,A3⟩ ce [(m,0),(p,0),(q,0)] [⟨DW k r_ l f g d e,some 28⟩,⟨GT ad a ai ae aj af ak,some 32⟩,⟨GS ag t_ al ah am ab ac,some 38⟩] [⟨bj,bg.length,bo,29,1,b9,0⟩] w'∧Ae.le b0 ce∧Ag ce bg b9) ?_ ?_
  ·
   refine wp_block ?_
   refine An (fun hg a' w'=>∃ (x_v20:List (List Int))(x_v21:Int)(y:Option Addr)(z:Nat)(bz:List Value)(de:Array Value)(b5:Ae),a' = ⟨de,[]⟩∧Kn 96 [(m,0),(p,0),(q,0)] ((tI 9 x_v21)::(tS 7 y x_v20.length z)::DX) de∧Ai ⟨w,h,A3⟩ b5 [(m,0),(p,0),(q,0)] [⟨DW k r_ l f g d e,some 28⟩,⟨GT ad a ai ae aj af ak,some 32⟩,⟨GS ag t_ al ah am ab ac,some 38⟩] [⟨y,x_v20.length,z,29,1,bz,0⟩] w'∧Ae.le b0 b5∧Ag b5 x_v20 bz∧DL hg r_ a t_ x_v20 x_v21=some bg) n ?_ ?_
   ·
    exact XY b1 ⟨0,b3,b4,cl,_,_,rfl,e4.kp,dr,Ae.le_refl _,ei,dj⟩
   ·
    rintro b8 _ jj ⟨x_v20,x_v21,y,z,bz,de,b5,rfl,e5,ch,ao,b7,aa⟩
    clear dj
    obtain _ | b8:=b8
    ·
     rw [DL] at aa; cases aa
    rw [DL] at aa
    replace be:=be.mono ao
    replace a7:=a7.mono ao
    replace ay:=ay.mono ao
    replace br:=br.mono ao
    replace bs:=bs.mono ao
    replace bt:=bt.mono ao
    replace bu:=bu.mono ao
    replace bv:=bv.mono ao
    replace bd:=bd.mono ao
    refine XT (XT (Aa (Rk 0 5 ((tB 61 (decide (x_v21<((r_.spares.length:Nat):Int))))::(tI 9 x_v21)::(tS 7 y x_v20.length z)::DX) e5 ch fun iw cv=>?_)))
    refine wf (wC (decide (x_v21<((r_.spares.length:Nat):Int))) cv (fun co=>?_) (fun co=>?_))
    ·
     rw [co,XW] at aa
     refine wp_skip (XT (wp_block (XT (Aa (Rk 0 3 ((tI 66 x_v21)::(tS 65 af a.spares.length ak)::(tI 9 x_v21)::(tS 7 y x_v20.length z)::DX) cv ch fun ix e6=>?_)))))
     obtain⟨x67,ex67,aa⟩:=Am aa
     obtain⟨f8,gj,hb⟩:=Ah ex67
     obtain⟨aq,av,ic,d1,g0,ec⟩:=bt.get (by decide) hb
     obtain rfl:=g0
     have bc:=ch.addPlc (b:=aq) (o:=av+(x_v21:Int).toNat*1) (cs:=[.bool x67]) (fun j c hj=>ec j _ (Aj hj)) rfl (by kernel_rfl) (by kernel_rfl)
     refine AN 3 (x_v21) rfl rfl (rfl) rfl (by decide) e6 (by rfl) (by rfl) (by rfl) d1 (by rfl) f8 gj (by kernel_rfl) fun hv (e7:Kn 96 [(m,0),(p,0),(q,0),(aq,av+(x_v21:Int).toNat*1)] ((tP 67 3 0)::(tI 66 x_v21)::(tS 65 af a.spares.length ak)::(tI 9 x_v21)::(tS 7 y x_v20.length z)::DX) hv)=>?_
     refine Rk 4 1 ((tB 68 x67)::(tI 9 x_v21)::(tS 7 y x_v20.length z)::DX) e7 bc fun iy cw=>?_
     refine wf (wC (x67) cw (fun cp=>?_) (fun cp=>?_))
     ·
      rw [cp,XW] at aa
      refine Al (by kernel_rfl) ?_
      replace bc:=bc.drew
      refine Ao [] [(m,0),(p,0),(q,0),(aq,av+(x_v21:Int).toNat*1)] [⟨DW k r_ l f g d e,some 28⟩,⟨GT ad a ai ae aj af ak,some 32⟩,⟨GS ag t_ al ah am ab ac,some 38⟩,⟨[.bool x67],none⟩] ?_
      refine Dr [0,1,2,3,4] (dn 4) ((tI 73 x_v21)::(tS 72 d r_.spares.length e)::(Jx k r_ l f g d e y x_v20 z x_v21)) cw bc fun iz e8=>?_
      obtain⟨x74,ex74,aa⟩:=Am aa
      obtain⟨f9,gk,hc⟩:=Ah ex74
      obtain⟨a3,a9,ie,d2,g1,ed⟩:=ay.get (by decide) hc
      obtain⟨_,_,rfl,rfl,rfl⟩:=g1
      have c4:=bc.addPlc (b:=a3) (o:=a9+(x_v21:Int).toNat*2) (cs:=[.int .i64 x74.stop,.int .i64 x74.tm]) (fun j c hj=>ed j _ (Aj hj)) rfl (by kernel_rfl) (by kernel_rfl)
      refine At 5 (x_v21) [.int .i64 x74.stop,.int .i64 x74.tm] (fun _ _ _ _ _ h=>h) rfl rfl (rfl) rfl (by decide) (by kernel_rfl) (by kernel_rfl) e8 bc.plOk (by rfl) (by rfl) (by rfl) d2 (by rfl) f9 gk (by kernel_rfl) fun hw (e9:Kn 96 [(m,0),(p,0),(q,0),(aq,av+(x_v21:Int).toNat*1),(a3,a9+(x_v21:Int).toNat*2)] ((tP 74 4 0)::(tI 73 x_v21)::(tS 72 d r_.spares.length e)::(Jx k r_ l f g d e y x_v20 z x_v21)) hw)=>?_
      refine Dr [6,7,8,9,10] (dn 10) ((tI 79 x_v21)::(tS 78 d r_.spares.length e)::(tI 76 x74.stop)::(Jx k r_ l f g d e y x_v20 z x_v21)) e9 c4 fun i0 fa=>?_
      obtain⟨x80,ex80,aa⟩:=Am aa
      obtain⟨ga,gl,hd⟩:=Ah ex80
      obtain⟨bb,bh,ig,d3,g2,ee⟩:=ay.get (by decide) hd
      obtain⟨_,_,rfl,rfl,rfl⟩:=g2
      have c5:=c4.addPlc (b:=bb) (o:=bh+(x_v21:Int).toNat*2) (cs:=[.int .i64 x80.stop,.int .i64 x80.tm]) (fun j c hj=>ee j _ (Aj hj)) rfl (by kernel_rfl) (by kernel_rfl)
      refine At 11 (x_v21) [.int .i64 x80.stop,.int .i64 x80.tm] (fun _ _ _ _ _ h=>h) rfl rfl (rfl) rfl (by decide) (by kernel_rfl) (by kernel_rfl) fa c4.plOk (by rfl) (by rfl) (by rfl) d3 (by rfl) ga gl (by kernel_rfl) fun hx (fb:Kn 96 [(m,0),(p,0),(q,0),(aq,av+(x_v21:Int).toNat*1),(a3,a9+(x_v21:Int).toNat*2),(bb,bh+(x_v21:Int).toNat*2)] ((tP 80 5 0)::(tI 79 x_v21)::(tS 78 d r_.spares.length e)::(tI 76 x74.stop)::(Jx k r_ l f g d e y x_v20 z x_v21)) hx)=>?_
      refine Dr [12,13,14,15,16,17,18,19,20] (dn 20) ((tI 89 (IntKind.i64.wrap (((r_.buses.length:Nat):Int)+x_v21)))::(tS 84 ab t_.legs.length ac)::(tI 82 x80.tm)::(tI 76 x74.stop)::(Jx k r_ l f g d e y x_v20 z x_v21)) fb c5 fun i1 fc=>?_
      obtain⟨x90,ex90,aa⟩:=Am aa
      obtain⟨gb,gm,he⟩:=Ah ex90
      obtain⟨bm,bx,ih,d4,g3,ef⟩:=bd.get (by decide) he
      obtain⟨bk,bp,rfl,gr⟩:=g3
      have c6:=c5.addPlc (b:=bm) (o:=bx+(IntKind.i64.wrap (((r_.buses.length:Nat):Int)+x_v21):Int).toNat*1) (cs:=[.slice bk x90.length bp]) (fun j c hj=>ef j _ (Aj hj)) rfl (by kernel_rfl) (by kernel_rfl)
      refine At 21 (IntKind.i64.wrap (((r_.buses.length:Nat):Int)+x_v21)) [.slice bk x90.length bp] (fun _ _ _ _ _ h=>h) rfl rfl (rfl) rfl (by decide) (by kernel_rfl) (by kernel_rfl) fc c5.plOk (by rfl) (by rfl) (by rfl) d4 (by rfl) gb gm (by kernel_rfl) fun hy (fd:Kn 96 (Qu m p q aq av x_v21 a3 a9 bb bh bm bx r_) ((tP 90 6 0)::(tI 89 (IntKind.i64.wrap (((r_.buses.length:Nat):Int)+x_v21)))::(tS 84 ab t_.legs.length ac)::(tI 82 x80.tm)::(tI 76 x74.stop)::(Jx k r_ l f g d e y x_v20 z x_v21)) hy)=>?_
      refine Dr [22] (dn 22) ((tS 91 bk x90.length bp)::(tI 82 x80.tm)::(tI 76 x74.stop)::(Jx k r_ l f g d e y x_v20 z x_v21)) fd c6 fun i2 fe=>?_
      obtain⟨x92,ex92,aa⟩:=Am aa
      refine Dl 23 fun K hK=>?_
      refine wc [.agg (DW k r_ l f g d e),.c (.int .i64 x74.stop),.c (.int .i64 x80.tm),.c (.int .i64 (-1)),.c (.int .i64 0),.c (.slice bk x90.length bp)] fe c6 (Jv b8 c6.has r_ ((Ab (Ad be) (Ab (Ab Ac Ac) (Ab (Ad a7) (Ab (Ad ay) (Ab Ac (Ab Ac (Ab Ac Ac))))))):rep b5 r_ _) x74.stop x80.tm (-1) 0 x90 gr ex92) fun je cn jk dw dp ds=>?_
      replace b7:=b7.mono dp
      obtain⟨a1,a5,rfl,gs⟩:=dw
      refine⟨.one (.c (.slice a1 x92.length a5)),rfl,fun h0 (ff:Kn 96 (Qu m p q aq av x_v21 a3 a9 bb bh bm bx r_) ((tS 92 a1 x92.length a5)::(tS 91 bk x90.length bp)::(tI 82 x80.tm)::(tI 76 x74.stop)::(Jx k r_ l f g d e y x_v20 z x_v21)) h0)=>hK _ _ ds.plOk ?_⟩
      refine Dl 24 fun K hK=>?_
      refine wS 29 1 [.slice a1 x92.length a5] ff ds fun di h1 jm (fg:Kn 96 (Qu m p q aq av x_v21 a3 a9 bb bh bm bx r_) ((tS 93 di 1 1)::(tS 92 a1 x92.length a5)::(tS 91 bk x90.length bp)::(tI 82 x80.tm)::(tI 76 x74.stop)::(Jx k r_ l f g d e y x_v20 z x_v21)) h1) c7=>?_
      have cu:Ag cn ([x92]:List (List Int)) ([.slice a1 x92.length a5]:List Value):=⟨_,_,rfl,((Ad gs):rep cn (x92:List Int) _),rfl⟩
      refine hK _ _ c7.plOk ?_
      obtain⟨x94,ex94,aa⟩:=Am aa
      obtain⟨dc,fz⟩:=AU ex94
      refine Dl 25 fun K hK=>?_
      refine AG 0 24 1 _ (x94.length) _ ([.slice a1 x92.length a5]:List Value) fg c7 rfl rfl (by decide) rfl (by rfl) (by kernel_rfl) (by rfl) (by rfl) (Ag.len cu) (c7.rowCell (i:=1) rfl) cu.one (by rw [dc]; simp <;> omega) (by rw [dc]; exact fz) (by decide) fun cb cd du h2 jn em (fi:Kn 96 (Qu m p q aq av x_v21 a3 a9 bb bh bm bx r_) ((tS 94 cb x94.length cd)::(tS 93 di 1 1)::(tS 92 a1 x92.length a5)::(tS 91 bk x90.length bp)::(tI 82 x80.tm)::(tI 76 x74.stop)::(Jx k r_ l f g d e y x_v20 z x_v21)) h2) ci=>?_
      have eg:Ag cn x94 (bz++([.slice a1 x92.length a5]:List Value)):=by rw [dc]; exact Ag.append b7 cu
      obtain rfl:du=0:=Nat.le_zero.1 em
      refine hK _ _ ci.plOk ?_
      refine Dr [26] (dn 26) ((tS 7 cb x94.length cd)::(tI 9 x_v21)::DX) fi ci fun i3 fj=>?_
      refine Ay (by kernel_rfl) (Aa (Rk 0 3 ((tI 9 (IntKind.i64.wrap (x_v21+1)))::(tS 7 cb x94.length cd)::DX) fj ci fun i4 fk=>?_))
      refine wf ?_
      exact XY b8 ⟨Nat.lt_succ_self _,XY x94 ⟨IntKind.i64.wrap (x_v21+1),cb,cd,bz++([.slice a1 x92.length a5]:List Value),_,_,rfl,(fk.keep [9,7,5,4,3] (by rfl)).cut 3 (by kernel_rfl),(ci.cutRw 1).cutPl 3 (by kernel_rfl),XU ao dp,eg,aa⟩⟩
     ·
      rw [cp,XV] at aa
      refine wp_skip (Aa (Rk 0 3 ((tI 9 (IntKind.i64.wrap (x_v21+1)))::(tS 7 y x_v20.length z)::DX) cw bc fun i5 fl=>?_))
      refine wf ?_
      exact XY b8 ⟨Nat.lt_succ_self _,XY x_v20 ⟨IntKind.i64.wrap (x_v21+1),y,z,bz,_,_,rfl,(fl.keep [9,7,5,4,3] (by rfl)).cut 3 (by kernel_rfl),bc.cutPl 3 (by kernel_rfl),ao,b7,aa⟩⟩
    ·
     rw [co,XV] at aa
     refine wp_exit ?_
     obtain rfl:=XZ aa
     exact XY y ⟨z,bz,_,_,rfl,cv.kp,ch,ao,b7⟩
  ·
   rintro _ h6 ⟨bj,bo,b9,dd,ce,rfl,fm,c8,ik,ct⟩
   refine XT (Aa (Rk 0 2 [tS 6 bj bg.length bo] fm c8 fun i6 fn=>?_))
   refine wf (wp_ret ?_)
   obtain⟨dl,f0,gv,c9⟩:=c8.settle (i:=0) rfl
   replace ct:=ct.mono f0
   replace c9:Ai ⟨w,h,A3⟩ dl [(m,0),(p,0),(q,0)] [⟨DW k r_ l f g d e,some 28⟩,⟨GT ad a ai ae aj af ak,some 32⟩,⟨GS ag t_ al ah am ab ac,some 38⟩] [⟨bj,bg.length,bo,29,1,b9,(b9:List Value).length⟩] h6:=c9
   have gu:Az dl bj bo bg:=⟨_,ct,gv,c8.rowCap (i:=0) rfl⟩
   obtain rfl:=XZ H
   exact rt (.one (.c (.slice bj bg.length bo))) fn c9 ⟨_,_,rfl,gu⟩
abbrev M7 (x31:Rg):List SC:=[.int .i64 x31.lo,.int .i64 x31.hi]
abbrev R9 (r_:Af):List SC:=[.int .i64 r_.turn.lo,.int .i64 r_.turn.hi]
abbrev Pq (a d e ar au:Nat) (x_v21:Int) (av ay:Nat):AT:=[(a,0),(d,0),(e,0),(ar,au+(x_v21:Int).toNat*3),(av,ay+(x_v21:Int).toNat*3)]
abbrev EG:List SC:=[.slice none 0 0,.int .i64 0,.int .i64 0,.slice none 0 0,.slice none 0 0,.int .i64 0,.int .i64 0,.int .i64 0,.int .i64 0]
abbrev Lt (x9:Rg) (r_:Af):List SC:=[.slice none 0 0,.int .i64 x9.lo,.int .i64 x9.hi,.slice none 0 0,.slice none 0 0,.int .i64 r_.unit,.int .i64 r_.gap,.int .i64 r_.fr,.int .i64 r_.to_]
abbrev I7 (p:Option Addr) (f:List Rg) (q:Nat) (x9:Rg) (y:Option Addr) (x:List C6) (z:Nat) (ab:Option Addr) (aa:List A7) (ac:Nat) (r_:Af):List SC:=[.slice p f.length q,.int .i64 x9.lo,.int .i64 x9.hi,.slice y x.length z,.slice ab aa.length ac,.int .i64 r_.unit,.int .i64 r_.gap,.int .i64 r_.fr,.int .i64 r_.to_]
abbrev DY (s:Option Addr) (r_:Af) (u:Nat) (g:Option Addr) (l:Nat) (k:Option Addr) (m:Nat):List SC:=[.slice s r_.legs.length u,.int .i64 r_.turn.lo,.int .i64 r_.turn.hi,.slice g r_.buses.length l,.slice k r_.spares.length m,.int .i64 r_.unit,.int .i64 r_.gap,.int .i64 r_.fr,.int .i64 r_.to_]
abbrev N9 (s:Option Addr) (r_:Af) (u:Nat) (g:Option Addr) (l:Nat) (k:Option Addr) (m:Nat):List CO:=[⟨DY s r_ u g l k m,some 28⟩,⟨EG,some 48⟩,⟨EG,some 48⟩]
abbrev B2:TM:=[tP 3 2 0,tP 2 1 0,tP 1 0 0]
abbrev M8 (r_:Af):TM:=[tI 17 r_.to_,tI 15 r_.fr,tI 13 r_.gap,tI 11 r_.unit,tA 8 (R9 r_),tP 2 1 0,tP 1 0 0]
set_option maxRecDepth 100000 in
set_option maxHeartbeats 4000000 in
theorem Hx (n:Nat) {h:Ae} {w:World} (hh:C9 h w) (r_:Af) {cs_r_:List Value} (hx_r_:rep h r_ cs_r_) {r:Af} (H:Fs n r_=some r) :
  Calls Tryz.prog 10 #[.agg cs_r_.toArray] w (CA (fun h v=>∃ cs,v=.agg cs.toArray∧rep h r cs) h w):=by
 obtain⟨_,_,rfl,⟨s,u,rfl,ap⟩,⟨_,_,rfl,⟨_,_,rfl,rfl,rfl⟩,⟨_,_,rfl,⟨g,l,rfl,am⟩,⟨_,_,rfl,⟨k,m,rfl,ah⟩,⟨_,_,rfl,rfl,⟨_,_,rfl,rfl,⟨_,_,rfl,rfl,rfl⟩⟩⟩⟩⟩⟩⟩:=hx_r_
 refine enter 89 [.agg (DY s r_ u g l k m)] Tryz.func10 rfl rfl rfl rfl fun t hk=>?_
 have hm:=Ai.begin h w hh
 unfold Fs at H
 refine XT (Aa (wl fun K hK=>?_))
 refine wb (.agg (DY s r_ u g l k m)) hk hm fun a hz jq (e7:Kn 89 [(a,0)] [tP 1 0 0,tA 0 (DY s r_ u g l k m)] hz) gw=>hK _ _ ?_
 refine wl fun K hK=>?_
 refine wa EG e7 gw fun d d7 js (fe:Kn 89 [(a,0),(d,0)] [tP 2 1 0,tP 1 0 0,tA 0 (DY s r_ u g l k m)] d7) bv=>hK _ _ ?_
 have fi:Kn 89 [(a,0),(d,0)] [tP 2 1 0,tP 1 0 0] d7:=fe.kp
 refine wf (XT (Al (by kernel_rfl) ?_))
 replace bv:=bv.drew
 refine Ao [] [(a,0),(d,0)] [⟨DY s r_ u g l k m,some 28⟩,⟨EG,some 48⟩] ?_
 refine Dr [0,1,3,4,5,6,7,8,9,10] [10,9,8,7,6,5,4,3,1,0] (M8 r_) fi bv fun h6 fp=>?_
 obtain⟨x9,ex9,H⟩:=Am H
 have dr:Kn 89 [(a,0),(d,0),(0,0)] (M8 r_) h6:=fp.push (0,0) (by kernel_rfl)
 have ct:=bv.addPlc (b:=0) (o:=0) (cs:=[]) (fun j c hj=>by simp at hj) rfl (by kernel_rfl) (by kernel_rfl)
 refine Iv (e':=[(a,0),(d,0),(0,0)]) (pl':=[⟨DY s r_ u g l k m,some 28⟩,⟨EG,some 48⟩,⟨[],none⟩]) (fun _ hp=>hp.pop (Nat.le_of_eq rfl) (by kernel_rfl)) ?_
 refine D5 (fun W=>∀ (e:Nat),∀ a' w',(∃ (b1:Array Value)(a0:Ae),a' = ⟨b1,[]⟩∧Kn 89 [(a,0),(d,0),(e,0)] [tP 3 2 0,tA 18 (Lt x9 r_),tP 2 1 0,tP 1 0 0] b1∧Ai ⟨w,h,A3⟩ a0 [(a,0),(d,0),(e,0)] (N9 s r_ u g l k m) [] w'∧Ae.le h a0)→W [(a,0),(d,0),(e,0)] (N9 s r_ u g l k m) [11,2,12,10,9,8,7,6,5,4,3,1,0] a' w') ?_ (fun d6=>?_)
 ·
  intro e
  rintro _ jz ⟨b1,a0,rfl,f2,gy,cj⟩
  replace ap:=ap.mono cj
  replace am:=am.mono cj
  replace ah:=ah.mono cj
  refine CB 13 rfl (by kernel_rfl) (by decide) (rfl) (by kernel_rfl) fun K hK=>?_
  refine FH 2 0 (.agg (Lt x9 r_)) (Lt x9 r_) f2 gy fun ip gb d4=>hK _ _ ?_
  refine Ao [] [(a,0),(d,0),(e,0)] [⟨DY s r_ u g l k m,some 28⟩,⟨EG,some 48⟩,⟨Lt x9 r_,some 48⟩] ?_
  have gh:Kn 89 [(a,0),(d,0),(e,0)] B2 b1:=gb.kp
  refine Ay (by kernel_rfl) (XT (XT (Aa (Rk 0 1 ((tI 4 0)::B2) gh d4 fun jg gi=>?_))))
  refine wf ?_
  have gz:Ai ⟨w,h,A3⟩ a0 [(a,0),(d,0),(e,0)] [⟨DY s r_ u g l k m,some 28⟩,⟨EG,some 48⟩,⟨Lt x9 r_,some 48⟩] [⟨none,0,0,44,2,[],0⟩] ip:=d4.nilRow 44 2
  have ev:Ag a0 ([]:List Rg) []:=Ag.nil
  obtain⟨f,dl,H⟩:=Am H
  refine Ap (fun a' w'=>∃ (p:Option Addr)(q:Nat)(ae:List Value)(dd:Array Value)(ax:Ae),a' = ⟨dd,[]⟩∧Kn 89 [(a,0),(d,0),(e,0)] B2 dd∧Ai ⟨w,h,A3⟩ ax [(a,0),(d,0),(e,0)] [⟨DY s r_ u g l k m,some 28⟩,⟨EG,some 48⟩,⟨[.slice p f.length q,.int .i64 x9.lo,.int .i64 x9.hi,.slice none 0 0,.slice none 0 0,.int .i64 r_.unit,.int .i64 r_.gap,.int .i64 r_.fr,.int .i64 r_.to_],some 48⟩] [⟨p,f.length,q,44,2,ae,0⟩] w'∧Ae.le a0 ax∧Ag ax f ae) ?_ ?_
  ·
   refine wp_block ?_
   refine An (fun hw a' w'=>∃ (x_v10:List Rg)(x_v11:Int)(an:Option Addr)(ao:Nat)(bd:List Value)(de:Array Value)(bn:Ae),a' = ⟨de,[]⟩∧Kn 89 [(a,0),(d,0),(e,0)] ((tI 4 x_v11)::B2) de∧Ai ⟨w,h,A3⟩ bn [(a,0),(d,0),(e,0)] [⟨DY s r_ u g l k m,some 28⟩,⟨EG,some 48⟩,⟨[.slice an x_v10.length ao,.int .i64 x9.lo,.int .i64 x9.hi,.slice none 0 0,.slice none 0 0,.int .i64 r_.unit,.int .i64 r_.gap,.int .i64 r_.fr,.int .i64 r_.to_],some 48⟩] [⟨an,x_v10.length,ao,44,2,bd,0⟩] w'∧Ae.le a0 bn∧Ag bn x_v10 bd∧Du hw r_ x_v10 x_v11=some f) n ?_ ?_
   ·
    exact XY ([]:List Rg) ⟨0,none,0,[],_,_,rfl,gi.kp,gz,Ae.le_refl _,ev,dl⟩
   ·
    rintro b0 _ j5 ⟨x_v10,x_v11,an,ao,bd,de,bn,rfl,gj,a4,bo,bt,aj⟩
    clear dl
    obtain _ | b0:=b0
    ·
     rw [Du] at aj; cases aj
    rw [Du] at aj
    replace ap:=ap.mono bo
    replace am:=am.mono bo
    replace ah:=ah.mono bo
    refine XT (XT (Aa (Rk 0 5 ((tB 23 (decide (x_v11<((r_.legs.length:Nat):Int))))::(tI 4 x_v11)::B2) gj a4 fun jh cf=>?_)))
    refine wf (wC (decide (x_v11<((r_.legs.length:Nat):Int))) cf (fun b7=>?_) (fun b7=>?_))
    ·
     rw [b7,XW] at aj
     refine wp_skip (XT (wp_block (Al (by kernel_rfl) ?_)))
     replace a4:=a4.drew
     refine Ao [] [(a,0),(d,0),(e,0)] [⟨DY s r_ u g l k m,some 28⟩,⟨EG,some 48⟩,⟨[.slice an x_v10.length ao,.int .i64 x9.lo,.int .i64 x9.hi,.slice none 0 0,.slice none 0 0,.int .i64 r_.unit,.int .i64 r_.gap,.int .i64 r_.fr,.int .i64 r_.to_],some 48⟩] ?_
     refine Dr [0,1,2,3,4] (dn 4) ((tI 30 x_v11)::(tS 29 s r_.legs.length u)::(tS 27 an x_v10.length ao)::(tI 4 x_v11)::B2) cf a4 fun ji gk=>?_
     obtain⟨x31,ex31,aj⟩:=Am aj
     obtain⟨g4,g9,ht⟩:=Ah ex31
     obtain⟨a7,ba,iy,ek,hn,ew⟩:=ap.get (by decide) ht
     obtain⟨_,_,rfl,rfl,rfl⟩:=hn
     have c1:=a4.addPlc (b:=a7) (o:=ba+(x_v11:Int).toNat*2) (cs:=(M7 x31)) (fun j c hj=>ew j _ (Aj hj)) rfl (by kernel_rfl) (by kernel_rfl)
     refine At 5 (x_v11) (M7 x31) (fun _ _ _ _ _ h=>h) rfl rfl (rfl) rfl (by decide) (by kernel_rfl) (by kernel_rfl) gk a4.plOk (by rfl) (by rfl) (by rfl) ek (by rfl) g4 g9 (by kernel_rfl) fun ij (gl:Kn 89 [(a,0),(d,0),(e,0),(a7,ba+(x_v11:Int).toNat*2)] ((tP 31 3 0)::(tI 30 x_v11)::(tS 29 s r_.legs.length u)::(tS 27 an x_v10.length ao)::(tI 4 x_v11)::B2) ij)=>?_
     refine Dr [6] (dn 6) ((tA 32 (M7 x31))::(tS 27 an x_v10.length ao)::(tI 4 x_v11)::B2) gl c1 fun jj gm=>?_
     obtain⟨x33,ex33,aj⟩:=Am aj
     refine Dl 7 fun K hK=>?_
     refine wc [.agg (M7 x31)] gm c1 (Jg b0 c1.has x31 ((Ab Ac Ac):rep bn x31 _) ex33) fun jn b4 j6 ee du d5=>?_
     replace bt:=bt.mono du
     obtain⟨_,rfl,⟨_,_,rfl,rfl,rfl⟩⟩:=ee
     refine⟨.one (.agg [.int .i64 x33.lo,.int .i64 x33.hi]),rfl,fun ik (gn:Kn 89 [(a,0),(d,0),(e,0),(a7,ba+(x_v11:Int).toNat*2)] ((tA 33 [.int .i64 x33.lo,.int .i64 x33.hi])::(tA 32 (M7 x31))::(tS 27 an x_v10.length ao)::(tI 4 x_v11)::B2) ik)=>hK _ _ d5.plOk ?_⟩
     refine Dl 8 fun K hK=>?_
     refine wS 44 2 [.int .i64 x33.lo,.int .i64 x33.hi] gn d5 fun di il j7 (go:Kn 89 [(a,0),(d,0),(e,0),(a7,ba+(x_v11:Int).toNat*2)] ((tS 34 di 1 1)::(tA 33 [.int .i64 x33.lo,.int .i64 x33.hi])::(tA 32 (M7 x31))::(tS 27 an x_v10.length ao)::(tI 4 x_v11)::B2) il) c2=>?_
     have cc:Ag b4 ([x33]:List Rg) ([.int .i64 x33.lo,.int .i64 x33.hi]:List Value):=⟨_,_,rfl,((Ab Ac Ac):rep b4 (x33:Rg) _),rfl⟩
     refine hK _ _ c2.plOk ?_
     obtain⟨x35,ex35,aj⟩:=Am aj
     obtain⟨c7,gr⟩:=AU ex35
     refine Dl 9 fun K hK=>?_
     refine AG 0 16 1 _ (x35.length) _ ([.int .i64 x33.lo,.int .i64 x33.hi]:List Value) go c2 rfl rfl (by decide) rfl (by rfl) (by kernel_rfl) (by rfl) (by rfl) (Ag.len cc) (c2.rowCell (i:=1) rfl) cc.one (by rw [c7]; simp <;> omega) (by rw [c7]; exact gr) (by decide) fun bg bj d8 hx jo ex (e0:Kn 89 [(a,0),(d,0),(e,0),(a7,ba+(x_v11:Int).toNat*2)] ((tS 35 bg x35.length bj)::(tS 34 di 1 1)::(tA 33 [.int .i64 x33.lo,.int .i64 x33.hi])::(tA 32 (M7 x31))::(tS 27 an x_v10.length ao)::(tI 4 x_v11)::B2) hx) cm=>?_
     have el:Ag b4 x35 (bd++([.int .i64 x33.lo,.int .i64 x33.hi]:List Value)):=by rw [c7]; exact Ag.append bt cc
     obtain rfl:d8=0:=Nat.le_zero.1 ex
     refine hK _ _ cm.plOk ?_
     refine Dr [10] (dn 10) ((tP 36 2 0)::(tS 35 bg x35.length bj)::(tI 4 x_v11)::B2) e0 cm fun hy e1=>?_
     refine CB 11 rfl (by kernel_rfl) (by decide) (rfl) (by kernel_rfl) fun K hK=>?_
     refine FH 2 0 (.c (.slice bg x35.length bj)) [.slice bg x35.length bj,.int .i64 x9.lo,.int .i64 x9.hi,.slice none 0 0,.slice none 0 0,.int .i64 r_.unit,.int .i64 r_.gap,.int .i64 r_.fr,.int .i64 r_.to_] e1 cm fun jp e2 dv=>hK _ _ ?_
     have e3:Kn 89 [(a,0),(d,0),(e,0),(a7,ba+(x_v11:Int).toNat*2)] ((tI 4 x_v11)::B2) hy:=e2.kp
     refine E2 (by kernel_rfl) (Aa (Rk 0 3 ((tI 4 (IntKind.i64.wrap (x_v11+1)))::B2) e3 dv fun i0 e4=>?_))
     refine wf ?_
     exact XY b0 ⟨Nat.lt_succ_self _,XY x35 ⟨IntKind.i64.wrap (x_v11+1),bg,bj,bd++([.int .i64 x33.lo,.int .i64 x33.hi]:List Value),_,_,rfl,(e4.keep [4,3,2,1] (by rfl)).cut 3 (by kernel_rfl),(dv.cutRw 1).cutPl 3 (by kernel_rfl),XU bo du,el,aj⟩⟩
    ·
     rw [b7,XV] at aj
     refine wp_exit ?_
     obtain rfl:=XZ aj
     exact XY an ⟨ao,bd,_,_,rfl,cf.kp,a4,bo,bt⟩
  ·
   rintro _ im ⟨p,q,ae,dd,ax,rfl,e5,dw,cg,a1⟩
   replace ap:=ap.mono cg
   replace am:=am.mono cg
   replace ah:=ah.mono cg
   refine XT (XT (Aa (Rk 0 1 ((tI 5 0)::B2) e5 dw fun i1 e6=>?_)))
   refine wf ?_
   have gv:Ai ⟨w,h,A3⟩ ax [(a,0),(d,0),(e,0)] [⟨DY s r_ u g l k m,some 28⟩,⟨EG,some 48⟩,⟨[.slice p f.length q,.int .i64 x9.lo,.int .i64 x9.hi,.slice none 0 0,.slice none 0 0,.int .i64 r_.unit,.int .i64 r_.gap,.int .i64 r_.fr,.int .i64 r_.to_],some 48⟩] [⟨p,f.length,q,44,2,ae,0⟩,⟨none,0,0,87,3,[],0⟩] im:=dw.nilRow 87 3
   have em:Ag ax ([]:List C6) []:=Ag.nil
   obtain⟨x,dj,H⟩:=Am H
   refine Ap (fun a' w'=>∃ (y:Option Addr)(z:Nat)(aq:List Value)(c9:Array Value)(aw:Ae),a' = ⟨c9,[]⟩∧Kn 89 [(a,0),(d,0),(e,0)] B2 c9∧Ai ⟨w,h,A3⟩ aw [(a,0),(d,0),(e,0)] [⟨DY s r_ u g l k m,some 28⟩,⟨EG,some 48⟩,⟨[.slice p f.length q,.int .i64 x9.lo,.int .i64 x9.hi,.slice y x.length z,.slice none 0 0,.int .i64 r_.unit,.int .i64 r_.gap,.int .i64 r_.fr,.int .i64 r_.to_],some 48⟩] [⟨p,f.length,q,44,2,ae,0⟩,⟨y,x.length,z,87,3,aq,0⟩] w'∧Ae.le ax aw∧Ag aw x aq) ?_ ?_
   ·
    refine wp_block ?_
    refine An (fun hu a' w'=>∃ (x_v20:List C6)(x_v21:Int)(af:Option Addr)(ag:Nat)(bb:List Value)(da:Array Value)(bm:Ae),a' = ⟨da,[]⟩∧Kn 89 [(a,0),(d,0),(e,0)] ((tI 5 x_v21)::B2) da∧Ai ⟨w,h,A3⟩ bm [(a,0),(d,0),(e,0)] [⟨DY s r_ u g l k m,some 28⟩,⟨EG,some 48⟩,⟨[.slice p f.length q,.int .i64 x9.lo,.int .i64 x9.hi,.slice af x_v20.length ag,.slice none 0 0,.int .i64 r_.unit,.int .i64 r_.gap,.int .i64 r_.fr,.int .i64 r_.to_],some 48⟩] [⟨p,f.length,q,44,2,ae,0⟩,⟨af,x_v20.length,ag,87,3,bb,0⟩] w'∧Ae.le ax bm∧Ag bm x_v20 bb∧Dv hu r_ x_v20 x_v21=some x) n ?_ ?_
    ·
     exact XY ([]:List C6) ⟨0,none,0,[],_,_,rfl,e6.kp,gv,Ae.le_refl _,em,dj⟩
    ·
     rintro bz _ jr ⟨x_v20,x_v21,af,ag,bb,da,bm,rfl,e8,a2,a8,bs,ad⟩
     clear dj
     obtain _ | bz:=bz
     ·
      rw [Dv] at ad; cases ad
     rw [Dv] at ad
     replace ap:=ap.mono a8
     replace am:=am.mono a8
     replace ah:=ah.mono a8
     replace a1:=a1.mono a8
     refine XT (XT (Aa (Rk 0 5 ((tB 41 (decide (x_v21<((r_.buses.length:Nat):Int))))::(tI 5 x_v21)::B2) e8 a2 fun i2 cd=>?_)))
     refine wf (wC (decide (x_v21<((r_.buses.length:Nat):Int))) cd (fun b5=>?_) (fun b5=>?_))
     ·
      rw [b5,XW] at ad
      refine wp_skip (XT (wp_block (Al (by kernel_rfl) ?_)))
      replace a2:=a2.drew
      refine Ao [] [(a,0),(d,0),(e,0)] [⟨DY s r_ u g l k m,some 28⟩,⟨EG,some 48⟩,⟨[.slice p f.length q,.int .i64 x9.lo,.int .i64 x9.hi,.slice af x_v20.length ag,.slice none 0 0,.int .i64 r_.unit,.int .i64 r_.gap,.int .i64 r_.fr,.int .i64 r_.to_],some 48⟩] ?_
      refine Dr [0,1,2,3,4] (dn 4) ((tI 48 x_v21)::(tS 47 g r_.buses.length l)::(tS 45 af x_v20.length ag)::(tI 5 x_v21)::B2) cd a2 fun i3 e9=>?_
      obtain⟨x49,ex49,ad⟩:=Am ad
      obtain⟨g0,g5,ho⟩:=Ah ex49
      obtain⟨ar,au,iu,eg,he,en⟩:=am.get (by decide) ho
      obtain⟨_,_,rfl,rfl,⟨_,_,rfl,rfl,rfl⟩⟩:=he
      have cn:=a2.addPlc (b:=ar) (o:=au+(x_v21:Int).toNat*3) (cs:=[.int .i64 x49.stop,.int .i64 x49.tm.lo,.int .i64 x49.tm.hi]) (fun j c hj=>en j _ (Aj hj)) rfl (by kernel_rfl) (by kernel_rfl)
      refine At 5 (x_v21) [.int .i64 x49.stop,.int .i64 x49.tm.lo,.int .i64 x49.tm.hi] (fun _ _ _ _ _ h=>h) rfl rfl (rfl) rfl (by decide) (by kernel_rfl) (by kernel_rfl) e9 a2.plOk (by rfl) (by rfl) (by rfl) eg (by rfl) g0 g5 (by kernel_rfl) fun h0 (fa:Kn 89 [(a,0),(d,0),(e,0),(ar,au+(x_v21:Int).toNat*3)] ((tP 49 3 0)::(tI 48 x_v21)::(tS 47 g r_.buses.length l)::(tS 45 af x_v20.length ag)::(tI 5 x_v21)::B2) h0)=>?_
      refine Dr [6,7,8,9,10] (dn 10) ((tI 54 x_v21)::(tS 53 g r_.buses.length l)::(tI 51 x49.stop)::(tS 45 af x_v20.length ag)::(tI 5 x_v21)::B2) fa cn fun i4 fb=>?_
      obtain⟨x55,ex55,ad⟩:=Am ad
      obtain⟨g1,g6,hq⟩:=Ah ex55
      obtain⟨av,ay,iv,eh,hf,eo⟩:=am.get (by decide) hq
      obtain⟨_,_,rfl,rfl,⟨_,_,rfl,rfl,rfl⟩⟩:=hf
      have co:=cn.addPlc (b:=av) (o:=ay+(x_v21:Int).toNat*3) (cs:=[.int .i64 x55.stop,.int .i64 x55.tm.lo,.int .i64 x55.tm.hi]) (fun j c hj=>eo j _ (Aj hj)) rfl (by kernel_rfl) (by kernel_rfl)
      refine At 11 (x_v21) [.int .i64 x55.stop,.int .i64 x55.tm.lo,.int .i64 x55.tm.hi] (fun _ _ _ _ _ h=>h) rfl rfl (rfl) rfl (by decide) (by kernel_rfl) (by kernel_rfl) fb cn.plOk (by rfl) (by rfl) (by rfl) eh (by rfl) g1 g6 (by kernel_rfl) fun h1 (fc:Kn 89 (Pq a d e ar au x_v21 av ay) ((tP 55 4 0)::(tI 54 x_v21)::(tS 53 g r_.buses.length l)::(tI 51 x49.stop)::(tS 45 af x_v20.length ag)::(tI 5 x_v21)::B2) h1)=>?_
      refine Dr [12,13] (dn 13) ((tA 57 [.int .i64 x55.tm.lo,.int .i64 x55.tm.hi])::(tI 51 x49.stop)::(tS 45 af x_v20.length ag)::(tI 5 x_v21)::B2) fc co fun i5 fd=>?_
      obtain⟨x58,ex58,ad⟩:=Am ad
      refine Dl 14 fun K hK=>?_
      refine wc [.agg [.int .i64 x55.tm.lo,.int .i64 x55.tm.hi]] fd co (Jg bz co.has x55.tm ((Ab Ac Ac):rep bm x55.tm _) ex58) fun jk b2 jt eb ds cp=>?_
      replace bs:=bs.mono ds
      obtain⟨_,rfl,⟨_,_,rfl,rfl,rfl⟩⟩:=eb
      refine⟨.one (.agg [.int .i64 x58.lo,.int .i64 x58.hi]),rfl,fun h2 (ff:Kn 89 (Pq a d e ar au x_v21 av ay) ((tA 58 [.int .i64 x58.lo,.int .i64 x58.hi])::(tA 57 [.int .i64 x55.tm.lo,.int .i64 x55.tm.hi])::(tI 51 x49.stop)::(tS 45 af x_v20.length ag)::(tI 5 x_v21)::B2) h2)=>hK _ _ cp.plOk ?_⟩
      refine Dr [15] (dn 15) ((tA 59 [.int .i64 x49.stop,.int .i64 x58.lo,.int .i64 x58.hi])::(tS 45 af x_v20.length ag)::(tI 5 x_v21)::B2) ff cp fun i6 fg=>?_
      refine Dl 16 fun K hK=>?_
      refine wS 87 3 [.int .i64 x49.stop,.int .i64 x58.lo,.int .i64 x58.hi] fg cp fun dg h3 ju (fh:Kn 89 (Pq a d e ar au x_v21 av ay) ((tS 60 dg 1 1)::(tA 59 [.int .i64 x49.stop,.int .i64 x58.lo,.int .i64 x58.hi])::(tS 45 af x_v20.length ag)::(tI 5 x_v21)::B2) h3) cq=>?_
      have b9:Ag b2 ([C6.mk x49.stop x58]:List C6) ([.int .i64 x49.stop,.int .i64 x58.lo,.int .i64 x58.hi]:List Value):=⟨_,_,rfl,((Ab Ac (Ab Ac Ac)):rep b2 ((C6.mk x49.stop x58):C6) _),rfl⟩
      refine hK _ _ cq.plOk ?_
      obtain⟨x61,ex61,ad⟩:=Am ad
      obtain⟨c5,gp⟩:=AU ex61
      refine Dl 17 fun K hK=>?_
      refine AG 1 24 1 _ (x61.length) _ ([.int .i64 x49.stop,.int .i64 x58.lo,.int .i64 x58.hi]:List Value) fh cq rfl rfl (by decide) rfl (by rfl) (by kernel_rfl) (by rfl) (by rfl) (Ag.len b9) (cq.rowCell (i:=2) rfl) b9.one (by rw [c5]; simp <;> omega) (by rw [c5]; exact gp) (by decide) fun be bk d9 h4 jv ey (fj:Kn 89 (Pq a d e ar au x_v21 av ay) ((tS 61 be x61.length bk)::(tS 60 dg 1 1)::(tA 59 [.int .i64 x49.stop,.int .i64 x58.lo,.int .i64 x58.hi])::(tS 45 af x_v20.length ag)::(tI 5 x_v21)::B2) h4) cr=>?_
      have ep:Ag b2 x61 (bb++([.int .i64 x49.stop,.int .i64 x58.lo,.int .i64 x58.hi]:List Value)):=by rw [c5]; exact Ag.append bs b9
      obtain rfl:d9=0:=Nat.le_zero.1 ey
      refine hK _ _ cr.plOk ?_
      refine Dr [18] (dn 18) ((tP 62 2 3)::(tS 61 be x61.length bk)::(tI 5 x_v21)::B2) fj cr fun h5 fk=>?_
      refine CB 19 rfl (by kernel_rfl) (by decide) (rfl) (by kernel_rfl) fun K hK=>?_
      refine FH 2 3 (.c (.slice be x61.length bk)) [.slice p f.length q,.int .i64 x9.lo,.int .i64 x9.hi,.slice be x61.length bk,.slice none 0 0,.int .i64 r_.unit,.int .i64 r_.gap,.int .i64 r_.fr,.int .i64 r_.to_] fk cr fun jw fl dx=>hK _ _ ?_
      have fm:Kn 89 (Pq a d e ar au x_v21 av ay) ((tI 5 x_v21)::B2) h5:=fl.kp
      refine E2 (by kernel_rfl) (Aa (Rk 0 3 ((tI 5 (IntKind.i64.wrap (x_v21+1)))::B2) fm dx fun i7 fn=>?_))
      refine wf ?_
      exact XY bz ⟨Nat.lt_succ_self _,XY x61 ⟨IntKind.i64.wrap (x_v21+1),be,bk,bb++([.int .i64 x49.stop,.int .i64 x58.lo,.int .i64 x58.hi]:List Value),_,_,rfl,(fn.keep [5,3,2,1] (by rfl)).cut 3 (by kernel_rfl),(dx.cutRw 2).cutPl 3 (by kernel_rfl),XU a8 ds,ep,ad⟩⟩
     ·
      rw [b5,XV] at ad
      refine wp_exit ?_
      obtain rfl:=XZ ad
      exact XY af ⟨ag,bb,_,_,rfl,cd.kp,a2,a8,bs⟩
   ·
    rintro _ io ⟨y,z,aq,c9,aw,rfl,fo,dy,bu,b8⟩
    replace ap:=ap.mono bu
    replace am:=am.mono bu
    replace ah:=ah.mono bu
    replace a1:=a1.mono bu
    refine XT (XT (Aa (Rk 0 1 ((tI 6 0)::B2) fo dy fun i8 fq=>?_)))
    refine wf ?_
    have gx:Ai ⟨w,h,A3⟩ aw [(a,0),(d,0),(e,0)] [⟨DY s r_ u g l k m,some 28⟩,⟨EG,some 48⟩,⟨[.slice p f.length q,.int .i64 x9.lo,.int .i64 x9.hi,.slice y x.length z,.slice none 0 0,.int .i64 r_.unit,.int .i64 r_.gap,.int .i64 r_.fr,.int .i64 r_.to_],some 48⟩] [⟨p,f.length,q,44,2,ae,0⟩,⟨y,x.length,z,87,3,aq,0⟩,⟨none,0,0,90,2,[],0⟩] io:=dy.nilRow 90 2
    have er:Ag aw ([]:List A7) []:=Ag.nil
    obtain⟨aa,dk,H⟩:=Am H
    refine Ap (fun a' w'=>∃ (ab:Option Addr)(ac:Nat)(a5:List Value)(db:Array Value)(br:Ae),a' = ⟨db,[]⟩∧Kn 89 [(a,0),(d,0),(e,0)] [tP 3 2 0,tP 2 1 0] db∧Ai ⟨w,h,A3⟩ br [(a,0),(d,0),(e,0)] [⟨DY s r_ u g l k m,some 28⟩,⟨EG,some 48⟩,⟨I7 p f q x9 y x z ab aa ac r_,some 48⟩] [⟨p,f.length,q,44,2,ae,0⟩,⟨y,x.length,z,87,3,aq,0⟩,⟨ab,aa.length,ac,90,2,a5,0⟩] w'∧Ae.le aw br∧Ag br aa a5) ?_ ?_
    ·
     refine wp_block ?_
     refine An (fun hv a' w'=>∃ (x_v30:List A7)(x_v31:Int)(ak:Option Addr)(al:Nat)(bc:List Value)(dc:Array Value)(az:Ae),a' = ⟨dc,[]⟩∧Kn 89 [(a,0),(d,0),(e,0)] ((tI 6 x_v31)::B2) dc∧Ai ⟨w,h,A3⟩ az [(a,0),(d,0),(e,0)] [⟨DY s r_ u g l k m,some 28⟩,⟨EG,some 48⟩,⟨[.slice p f.length q,.int .i64 x9.lo,.int .i64 x9.hi,.slice y x.length z,.slice ak x_v30.length al,.int .i64 r_.unit,.int .i64 r_.gap,.int .i64 r_.fr,.int .i64 r_.to_],some 48⟩] [⟨p,f.length,q,44,2,ae,0⟩,⟨y,x.length,z,87,3,aq,0⟩,⟨ak,x_v30.length,al,90,2,bc,0⟩] w'∧Ae.le aw az∧Ag az x_v30 bc∧Dw hv r_ x_v30 x_v31=some aa) n ?_ ?_
     ·
      exact XY ([]:List A7) ⟨0,none,0,[],_,_,rfl,fq.kp,gx,Ae.le_refl _,er,dk⟩
     ·
      rintro c8 _ jx ⟨x_v30,x_v31,ak,al,bc,dc,az,rfl,fs,a3,ch,dq,ai⟩
      clear dk
      obtain _ | c8:=c8
      ·
       rw [Dw] at ai; cases ai
      rw [Dw] at ai
      replace ah:=ah.mono ch
      refine XT (XT (Aa (Rk 0 5 ((tB 67 (decide (x_v31<((r_.spares.length:Nat):Int))))::(tI 6 x_v31)::B2) fs a3 fun i9 ce=>?_)))
      refine wf (wC (decide (x_v31<((r_.spares.length:Nat):Int))) ce (fun b6=>?_) (fun b6=>?_))
      ·
       rw [b6,XW] at ai
       refine wp_skip (XT (wp_block (Al (by kernel_rfl) ?_)))
       replace a3:=a3.drew
       refine Ao [] [(a,0),(d,0),(e,0)] [⟨DY s r_ u g l k m,some 28⟩,⟨EG,some 48⟩,⟨[.slice p f.length q,.int .i64 x9.lo,.int .i64 x9.hi,.slice y x.length z,.slice ak x_v30.length al,.int .i64 r_.unit,.int .i64 r_.gap,.int .i64 r_.fr,.int .i64 r_.to_],some 48⟩] ?_
       refine Dr [0,1,2,3,4] (dn 4) ((tI 74 x_v31)::(tS 73 k r_.spares.length m)::(tS 71 ak x_v30.length al)::(tI 6 x_v31)::B2) ce a3 fun ja ft=>?_
       obtain⟨x75,ex75,ai⟩:=Am ai
       obtain⟨g2,g7,hr⟩:=Ah ex75
       obtain⟨a6,a9,iw,ei,hg,es⟩:=ah.get (by decide) hr
       obtain⟨_,_,rfl,rfl,rfl⟩:=hg
       have cu:=a3.addPlc (b:=a6) (o:=a9+(x_v31:Int).toNat*2) (cs:=[.int .i64 x75.stop,.int .i64 x75.tm]) (fun j c hj=>es j _ (Aj hj)) rfl (by kernel_rfl) (by kernel_rfl)
       refine At 5 (x_v31) [.int .i64 x75.stop,.int .i64 x75.tm] (fun _ _ _ _ _ h=>h) rfl rfl (rfl) rfl (by decide) (by kernel_rfl) (by kernel_rfl) ft a3.plOk (by rfl) (by rfl) (by rfl) ei (by rfl) g2 g7 (by kernel_rfl) fun h7 (fu:Kn 89 [(a,0),(d,0),(e,0),(a6,a9+(x_v31:Int).toNat*2)] ((tP 75 3 0)::(tI 74 x_v31)::(tS 73 k r_.spares.length m)::(tS 71 ak x_v30.length al)::(tI 6 x_v31)::B2) h7)=>?_
       refine Dr [6,7,8,9,10] (dn 10) ((tI 80 x_v31)::(tS 79 k r_.spares.length m)::(tI 77 x75.stop)::(tS 71 ak x_v30.length al)::(tI 6 x_v31)::B2) fu cu fun jb fv=>?_
       obtain⟨x81,ex81,ai⟩:=Am ai
       obtain⟨g3,g8,hs⟩:=Ah ex81
       obtain⟨bh,bp,ix,ej,hl,et⟩:=ah.get (by decide) hs
       obtain⟨_,_,rfl,rfl,rfl⟩:=hl
       have dz:=cu.addPlc (b:=bh) (o:=bp+(x_v31:Int).toNat*2) (cs:=[.int .i64 x81.stop,.int .i64 x81.tm]) (fun j c hj=>et j _ (Aj hj)) rfl (by kernel_rfl) (by kernel_rfl)
       refine At 11 (x_v31) [.int .i64 x81.stop,.int .i64 x81.tm] (fun _ _ _ _ _ h=>h) rfl rfl (rfl) rfl (by decide) (by kernel_rfl) (by kernel_rfl) fv cu.plOk (by rfl) (by rfl) (by rfl) ej (by rfl) g3 g8 (by kernel_rfl) fun h8 (fw:Kn 89 [(a,0),(d,0),(e,0),(a6,a9+(x_v31:Int).toNat*2),(bh,bp+(x_v31:Int).toNat*2)] ((tP 81 4 0)::(tI 80 x_v31)::(tS 79 k r_.spares.length m)::(tI 77 x75.stop)::(tS 71 ak x_v30.length al)::(tI 6 x_v31)::B2) h8)=>?_
       refine Dr [12,13,14] (dn 14) ((tA 84 [.int .i64 x75.stop,.int .i64 x81.tm])::(tS 71 ak x_v30.length al)::(tI 6 x_v31)::B2) fw dz fun jc fx=>?_
       refine Dl 15 fun K hK=>?_
       refine wS 90 2 [.int .i64 x75.stop,.int .i64 x81.tm] fx dz fun dh h9 jy (fy:Kn 89 [(a,0),(d,0),(e,0),(a6,a9+(x_v31:Int).toNat*2),(bh,bp+(x_v31:Int).toNat*2)] ((tS 85 dh 1 1)::(tA 84 [.int .i64 x75.stop,.int .i64 x81.tm])::(tS 71 ak x_v30.length al)::(tI 6 x_v31)::B2) h9) cv=>?_
       have cb:Ag az ([A7.mk x75.stop x81.tm]:List A7) ([.int .i64 x75.stop,.int .i64 x81.tm]:List Value):=⟨_,_,rfl,((Ab Ac Ac):rep az ((A7.mk x75.stop x81.tm):A7) _),rfl⟩
       refine hK _ _ cv.plOk ?_
       obtain⟨x86,ex86,ai⟩:=Am ai
       obtain⟨c6,gq⟩:=AU ex86
       refine Dl 16 fun K hK=>?_
       refine AG 2 16 1 _ (x86.length) _ ([.int .i64 x75.stop,.int .i64 x81.tm]:List Value) fy cv rfl rfl (by decide) rfl (by rfl) (by kernel_rfl) (by rfl) (by rfl) (Ag.len cb) (cv.rowCell (i:=3) rfl) cb.one (by rw [c6]; simp <;> omega) (by rw [c6]; exact gq) (by decide) fun bf bl ea ia j0 ez (fz:Kn 89 [(a,0),(d,0),(e,0),(a6,a9+(x_v31:Int).toNat*2),(bh,bp+(x_v31:Int).toNat*2)] ((tS 86 bf x86.length bl)::(tS 85 dh 1 1)::(tA 84 [.int .i64 x75.stop,.int .i64 x81.tm])::(tS 71 ak x_v30.length al)::(tI 6 x_v31)::B2) ia) cw=>?_
       have eu:Ag az x86 (bc++([.int .i64 x75.stop,.int .i64 x81.tm]:List Value)):=by rw [c6]; exact Ag.append dq cb
       obtain rfl:ea=0:=Nat.le_zero.1 ez
       refine hK _ _ cw.plOk ?_
       refine Dr [17] (dn 17) ((tP 87 2 4)::(tS 86 bf x86.length bl)::(tI 6 x_v31)::B2) fz cw fun ib f0=>?_
       refine CB 18 rfl (by kernel_rfl) (by decide) (rfl) (by kernel_rfl) fun K hK=>?_
       refine FH 2 4 (.c (.slice bf x86.length bl)) [.slice p f.length q,.int .i64 x9.lo,.int .i64 x9.hi,.slice y x.length z,.slice bf x86.length bl,.int .i64 r_.unit,.int .i64 r_.gap,.int .i64 r_.fr,.int .i64 r_.to_] f0 cw fun j1 f1 d0=>hK _ _ ?_
       have f3:Kn 89 [(a,0),(d,0),(e,0),(a6,a9+(x_v31:Int).toNat*2),(bh,bp+(x_v31:Int).toNat*2)] ((tI 6 x_v31)::B2) ib:=f1.kp
       refine E2 (by kernel_rfl) (Aa (Rk 0 3 ((tI 6 (IntKind.i64.wrap (x_v31+1)))::B2) f3 d0 fun jd f4=>?_))
       refine wf ?_
       exact XY c8 ⟨Nat.lt_succ_self _,XY x86 ⟨IntKind.i64.wrap (x_v31+1),bf,bl,bc++([.int .i64 x75.stop,.int .i64 x81.tm]:List Value),_,_,rfl,(f4.keep [6,3,2,1] (by rfl)).cut 3 (by kernel_rfl),(d0.cutRw 3).cutPl 3 (by kernel_rfl),ch,eu,ai⟩⟩
      ·
       rw [b6,XV] at ai
       refine wp_exit ?_
       obtain rfl:=XZ ai
       exact XY ak ⟨al,bc,_,_,rfl,ce.kp,a3,ch,dq⟩
    ·
     rintro _ j2 ⟨ab,ac,a5,db,br,rfl,f5,d1,dt,ca⟩
     refine XT (Aa (Rk 0 1 [tA 88 (I7 p f q x9 y x z ab aa ac r_),tP 2 1 0] f5 d1 fun ic f6=>?_))
     refine wl fun K hK=>?_
     refine FH 1 0 (.agg (I7 p f q x9 y x z ab aa ac r_)) (I7 p f q x9 y x z ab aa ac r_) f6 d1 fun df f7 d2=>hK _ _ ?_
     have f8:Kn 89 [(a,0),(d,0),(e,0)] [tP 2 1 0] ic:=f7.kp
     refine wf (wp_ret ?_)
     obtain⟨dm,ci,hb,bw⟩:=d2.settle (i:=0) rfl
     replace a1:=a1.mono (XU dt ci)
     replace bw:Ai ⟨w,h,A3⟩ dm [(a,0),(d,0),(e,0)] [⟨DY s r_ u g l k m,some 28⟩,⟨I7 p f q x9 y x z ab aa ac r_,some 48⟩,⟨I7 p f q x9 y x z ab aa ac r_,some 48⟩] [⟨p,f.length,q,44,2,ae,(ae:List Value).length⟩,⟨y,x.length,z,87,3,aq,0⟩,⟨ab,aa.length,ac,90,2,a5,0⟩] df:=bw
     have c3:Az dm p q f:=⟨_,a1,hb,d2.rowCap (i:=0) rfl⟩
     obtain⟨dp,ck,hc,bx⟩:=bw.settle (i:=1) rfl
     replace b8:=b8.mono (XU (XU dt ci) ck)
     replace bx:Ai ⟨w,h,A3⟩ dp [(a,0),(d,0),(e,0)] [⟨DY s r_ u g l k m,some 28⟩,⟨I7 p f q x9 y x z ab aa ac r_,some 48⟩,⟨I7 p f q x9 y x z ab aa ac r_,some 48⟩] [⟨p,f.length,q,44,2,ae,(ae:List Value).length⟩,⟨y,x.length,z,87,3,aq,(aq:List Value).length⟩,⟨ab,aa.length,ac,90,2,a5,0⟩] df:=bx
     have c4:Az dp y z x:=⟨_,b8,hc,bw.rowCap (i:=1) rfl⟩
     obtain⟨b3,cl,hd,cx⟩:=bx.settle (i:=2) rfl
     replace c3:=c3.mono (XU ck cl)
     replace c4:=c4.mono cl
     replace ca:=ca.mono (XU (XU ci ck) cl)
     replace cx:Ai ⟨w,h,A3⟩ b3 [(a,0),(d,0),(e,0)] [⟨DY s r_ u g l k m,some 28⟩,⟨I7 p f q x9 y x z ab aa ac r_,some 48⟩,⟨I7 p f q x9 y x z ab aa ac r_,some 48⟩] [⟨p,f.length,q,44,2,ae,(ae:List Value).length⟩,⟨y,x.length,z,87,3,aq,(aq:List Value).length⟩,⟨ab,aa.length,ac,90,2,a5,(a5:List Value).length⟩] df:=cx
     have ha:Az b3 ab ac aa:=⟨_,ca,hd,bx.rowCap (i:=2) rfl⟩
     obtain rfl:=XZ H
     exact rt (.one (.agg (I7 p f q x9 y x z ab aa ac r_))) f8 cx ⟨_,rfl,((Ab (Ad c3) (Ab (Ab Ac Ac) (Ab (Ad c4) (Ab (Ad ha) (Ab Ac (Ab Ac (Ab Ac Ac))))))):rep b3 ((Af.mk f x9 x aa r_.unit r_.gap r_.fr r_.to_):Af) _)⟩
 refine HD 2 12 rfl rfl (by kernel_rfl) (by decide) (rfl) (rfl) (fun K hK=>?_) (fun K hK=>?_)
 ·
  refine wc [.agg (R9 r_)] dr ct (Jg n ct.has r_.turn ((Ab Ac Ac):rep h r_.turn _) ex9) fun jl ef j3 ec gs cy=>?_
  obtain⟨_,rfl,⟨_,_,rfl,rfl,rfl⟩⟩:=ec
  refine⟨.one (.agg [.int .i64 x9.lo,.int .i64 x9.hi]),rfl,fun ie (f9:Kn 89 [(a,0),(d,0),(0,0)] ((tA 9 [.int .i64 x9.lo,.int .i64 x9.hi])::(M8 r_)) ie)=>hK _ _ cy.plOk ?_⟩
  refine Dr [11] [11,2,10,9,8,7,6,5,4,3,1,0] [tA 18 (Lt x9 r_),tP 2 1 0,tP 1 0 0] f9 cy fun je ga=>?_
  refine Dl 12 fun K hK=>?_
  refine SH 2 EG ga cy fun bq ig iq (gc:Kn 89 [(a,0),(d,0),(bq,0)] [tP 3 2 0,tA 18 (Lt x9 r_),tP 2 1 0,tP 1 0 0] ig) (d3:Ai ⟨w,h,A3⟩ ef [(a,0),(d,0),(bq,0)] (N9 s r_ u g l k m) [] iq)=>hK _ _ (AH.unset 2 rfl (by kernel_rfl) d3.plOk) (Iv (e':=[(a,0),(d,0),(bq,0)]) (pl':=(N9 s r_ u g l k m)) (fun _ hp=>hp.unset 2 rfl (by kernel_rfl)) ?_)
  refine B1 [11,2,12,10,9,8,7,6,5,4,3,1,0] (by kernel_rfl) (by rfl) (d6 bq _ _ ?_)
  exact XY _ ⟨_,rfl,gc.kp,d3,gs⟩
 ·
  refine SH 2 EG dr ct fun bi ih ir (gd:Kn 89 [(a,0),(d,0),(bi,0)] ((tP 3 2 0)::(M8 r_)) ih) (cz:Ai ⟨w,h,A3⟩ h [(a,0),(d,0),(bi,0)] (N9 s r_ u g l k m) [] ir)=>hK _ _ (AH.unset 2 rfl (by kernel_rfl) cz.plOk) (Iv (e':=[(a,0),(d,0),(bi,0)]) (pl':=(N9 s r_ u g l k m)) (fun _ hp=>hp.unset 2 rfl (by kernel_rfl)) ?_)
  refine Dl 2 fun K hK=>?_
  refine wc [.agg (R9 r_)] gd cz (Jg n cz.has r_.turn ((Ab Ac Ac):rep h r_.turn _) ex9) fun jm iz j4 ed gu c0=>?_
  obtain⟨_,rfl,⟨_,_,rfl,rfl,rfl⟩⟩:=ed
  refine⟨.one (.agg [.int .i64 x9.lo,.int .i64 x9.hi]),rfl,fun ii (gf:Kn 89 [(a,0),(d,0),(bi,0)] ((tA 9 [.int .i64 x9.lo,.int .i64 x9.hi])::(tP 3 2 0)::(M8 r_)) ii)=>hK _ _ c0.plOk ?_⟩
  refine Dr [11] [11,2,12,10,9,8,7,6,5,4,3,1,0] ((tA 18 (Lt x9 r_))::B2) gf c0 fun jf gg=>?_
  refine B1 [11,2,12,10,9,8,7,6,5,4,3,1,0] (by kernel_rfl) (by rfl) (d6 bi _ _ ?_)
  exact XY _ ⟨_,rfl,gg.kp,c0,gu⟩
abbrev GU:List SC:=[.slice none 0 0,.slice none 0 0,.slice none 0 0]
abbrev GV (g:Option Addr) (t_:Au) (k:Nat) (d:Option Addr) (f:Nat) (l:Option Addr) (m:Nat):List SC:=[.slice g t_.tm.length k,.slice d t_.turns.length f,.slice l t_.legs.length m]
abbrev Jy (g:Option Addr) (t_:Au) (k:Nat) (d:Option Addr) (f:Nat) (l:Option Addr) (m:Nat):List CO:=[⟨GV g t_ k d f l m,some 38⟩,⟨GU,some 52⟩,⟨GU,some 52⟩]
abbrev Ew:TM:=[tP 2 1 0,tP 1 0 0]
abbrev M9 (d:Option Addr) (t_:Au) (f:Nat) (g:Option Addr) (k:Nat):TM:=(tS 9 d t_.turns.length f)::(tS 6 g t_.tm.length k)::Ew
set_option maxRecDepth 100000 in
set_option maxHeartbeats 4000000 in
theorem Kx (n:Nat) {h:Ae} {w:World} (hh:C9 h w) (t_:Au) {cs_t_:List Value} (hx_t_:rep h t_ cs_t_) {r:Au} (H:Ga n t_=some r) :
  Calls Tryz.prog 12 #[.agg cs_t_.toArray] w (CA (fun h v=>∃ cs,v=.agg cs.toArray∧rep h r cs) h w):=by
 obtain⟨_,_,rfl,⟨g,k,rfl,ak⟩,⟨_,_,rfl,⟨d,f,rfl,ae⟩,⟨l,m,rfl,ap⟩⟩⟩:=hx_t_
 refine enter 31 [.agg (GV g t_ k d f l m)] Tryz.func12 rfl rfl rfl rfl fun t hk=>?_
 have hm:=Ai.begin h w hh
 unfold Ga at H
 refine XT (Aa (wl fun K hK=>?_))
 refine wb (.agg (GV g t_ k d f l m)) hk hm fun a eo fo (df:Kn 31 [(a,0)] [tP 1 0 0,tA 0 (GV g t_ k d f l m)] eo) d7=>hK _ _ ?_
 refine wl fun K hK=>?_
 refine wa GU df d7 fun e ct fu (dm:Kn 31 [(a,0),(e,0)] [tP 2 1 0,tP 1 0 0,tA 0 (GV g t_ k d f l m)] ct) bg=>hK _ _ ?_
 have dt:Kn 31 [(a,0),(e,0)] Ew ct:=dm.kp
 refine wf (XT (Al (by kernel_rfl) ?_))
 replace bg:=bg.drew
 refine Ao [] [(a,0),(e,0)] [⟨GV g t_ k d f l m,some 38⟩,⟨GU,some 52⟩] ?_
 refine Dr [0,1,3,4] [4,3,1,0] (M9 d t_ f g k) dt bg fun ez dw=>?_
 obtain⟨x7,ex7,H⟩:=Am H
 obtain⟨x10,ex10,H⟩:=Am H
 have cb:Kn 31 [(a,0),(e,0),(0,0)] (M9 d t_ f g k) ez:=dw.push (0,0) (by kernel_rfl)
 have b1:=bg.addPlc (b:=0) (o:=0) (cs:=[]) (fun j c hj=>by simp at hj) rfl (by kernel_rfl) (by kernel_rfl)
 refine Iv (e':=[(a,0),(e,0),(0,0)]) (pl':=[⟨GV g t_ k d f l m,some 38⟩,⟨GU,some 52⟩,⟨[],none⟩]) (fun _ hp=>hp.pop (Nat.le_of_eq rfl) (by kernel_rfl)) ?_
 refine D5 (fun W=>∀ (p:Nat),∀ (q:Option Addr),∀ (u:Nat),∀ (s:Option Addr),∀ (x:Nat),∀ a' w',(∃ (bj:Array Value)(ah:Ae),a' = ⟨bj,[]⟩∧Kn 31 [(a,0),(e,0),(p,0)] ((tP 3 2 0)::(tA 11 [.slice q x7.length u,.slice s x10.length x,.slice none 0 0])::Ew) bj∧Ai ⟨w,h,A3⟩ ah [(a,0),(e,0),(p,0)] (Jy g t_ k d f l m) [] w'∧Ae.le h ah∧Az ah q u x7∧Az ah s x x10)→W [(a,0),(e,0),(p,0)] (Jy g t_ k d f l m) [6,5,2,7,4,3,1,0] a' w') ?_ (fun cr=>?_)
 ·
  intro p q u s x
  rintro _ fx ⟨bj,ah,rfl,dx,d8,bt,a4,a5⟩
  replace ak:=ak.mono bt
  replace ae:=ae.mono bt
  replace ap:=ap.mono bt
  refine CB 8 rfl (by kernel_rfl) (by decide) (rfl) (by kernel_rfl) fun K hK=>?_
  refine FH 2 0 (.agg [.slice q x7.length u,.slice s x10.length x,.slice none 0 0]) [.slice q x7.length u,.slice s x10.length x,.slice none 0 0] dx d8 fun e6 dy co=>hK _ _ ?_
  refine Ao [] [(a,0),(e,0),(p,0)] [⟨GV g t_ k d f l m,some 38⟩,⟨GU,some 52⟩,⟨[.slice q x7.length u,.slice s x10.length x,.slice none 0 0],some 52⟩] ?_
  have dz:Kn 31 [(a,0),(e,0),(p,0)] ((tP 3 2 0)::Ew) bj:=dy.kp
  refine Ay (by kernel_rfl) (XT (XT (Aa (Rk 0 1 ((tI 4 0)::(tP 3 2 0)::Ew) dz co fun fd d0=>?_))))
  refine wf ?_
  have d9:Ai ⟨w,h,A3⟩ ah [(a,0),(e,0),(p,0)] [⟨GV g t_ k d f l m,some 38⟩,⟨GU,some 52⟩,⟨[.slice q x7.length u,.slice s x10.length x,.slice none 0 0],some 52⟩] [⟨none,0,0,29,1,[],0⟩] e6:=co.nilRow 29 1
  have c4:Ag ah ([]:List (List Int)) []:=Ag.nil
  obtain⟨z,b9,H⟩:=Am H
  refine Ap (fun a' w'=>∃ (ab:Option Addr)(ad:Nat)(a6:List Value)(b6:Array Value)(bc:Ae),a' = ⟨b6,[]⟩∧Kn 31 [(a,0),(e,0),(p,0)] [tP 3 2 0,tP 2 1 0] b6∧Ai ⟨w,h,A3⟩ bc [(a,0),(e,0),(p,0)] [⟨GV g t_ k d f l m,some 38⟩,⟨GU,some 52⟩,⟨[.slice q x7.length u,.slice s x10.length x,.slice ab z.length ad],some 52⟩] [⟨ab,z.length,ad,29,1,a6,0⟩] w'∧Ae.le ah bc∧Ag bc z a6) ?_ ?_
  ·
   refine wp_block ?_
   refine An (fun el a' w'=>∃ (x_v10:List (List Int))(x_v11:Int)(aa:Option Addr)(ac:Nat)(ax:List Value)(b7:Array Value)(bd:Ae),a' = ⟨b7,[]⟩∧Kn 31 [(a,0),(e,0),(p,0)] ((tI 4 x_v11)::(tP 3 2 0)::Ew) b7∧Ai ⟨w,h,A3⟩ bd [(a,0),(e,0),(p,0)] [⟨GV g t_ k d f l m,some 38⟩,⟨GU,some 52⟩,⟨[.slice q x7.length u,.slice s x10.length x,.slice aa x_v10.length ac],some 52⟩] [⟨aa,x_v10.length,ac,29,1,ax,0⟩] w'∧Ae.le ah bd∧Ag bd x_v10 ax∧Dx el t_ x_v10 x_v11=some z) n ?_ ?_
   ·
    exact XY ([]:List (List Int)) ⟨0,none,0,[],_,_,rfl,d0.kp,d9,Ae.le_refl _,c4,b9⟩
   ·
    rintro bi _ fy ⟨x_v10,x_v11,aa,ac,ax,b7,bd,rfl,d1,ao,an,be,y⟩
    clear b9
    obtain _ | bi:=bi
    ·
     rw [Dx] at y; cases y
    rw [Dx] at y
    replace ak:=ak.mono an
    replace ae:=ae.mono an
    replace ap:=ap.mono an
    replace a4:=a4.mono an
    replace a5:=a5.mono an
    refine XT (XT (Aa (Rk 0 5 ((tB 16 (decide (x_v11<((t_.legs.length:Nat):Int))))::(tI 4 x_v11)::(tP 3 2 0)::Ew) d1 ao fun fe br=>?_)))
    refine wf (wC (decide (x_v11<((t_.legs.length:Nat):Int))) br (fun bo=>?_) (fun bo=>?_))
    ·
     rw [bo,XW] at y
     refine wp_skip (XT (wp_block (Al (by kernel_rfl) ?_)))
     replace ao:=ao.drew
     refine Ao [] [(a,0),(e,0),(p,0)] [⟨GV g t_ k d f l m,some 38⟩,⟨GU,some 52⟩,⟨[.slice q x7.length u,.slice s x10.length x,.slice aa x_v10.length ac],some 52⟩] ?_
     refine Dr [0,1,2,3,4] (dn 4) ((tI 23 x_v11)::(tS 22 l t_.legs.length m)::(tS 20 aa x_v10.length ac)::(tI 4 x_v11)::(tP 3 2 0)::Ew) br ao fun ff d2=>?_
     obtain⟨x24,ex24,y⟩:=Am y
     obtain⟨ea,eb,ek⟩:=Ah ex24
     obtain⟨au,aw,e7,c2,ej,c5⟩:=ap.get (by decide) ek
     obtain⟨al,am,rfl,eg⟩:=ej
     have b2:=ao.addPlc (b:=au) (o:=aw+(x_v11:Int).toNat*1) (cs:=[.slice al x24.length am]) (fun j c hj=>c5 j _ (Aj hj)) rfl (by kernel_rfl) (by kernel_rfl)
     refine At 5 (x_v11) [.slice al x24.length am] (fun _ _ _ _ _ h=>h) rfl rfl (rfl) rfl (by decide) (by kernel_rfl) (by kernel_rfl) d2 ao.plOk (by rfl) (by rfl) (by rfl) c2 (by rfl) ea eb (by kernel_rfl) fun e1 (d3:Kn 31 [(a,0),(e,0),(p,0),(au,aw+(x_v11:Int).toNat*1)] ((tP 24 3 0)::(tI 23 x_v11)::(tS 22 l t_.legs.length m)::(tS 20 aa x_v10.length ac)::(tI 4 x_v11)::(tP 3 2 0)::Ew) e1)=>?_
     refine Dr [6] (dn 6) ((tS 25 al x24.length am)::(tS 20 aa x_v10.length ac)::(tI 4 x_v11)::(tP 3 2 0)::Ew) d3 b2 fun fg d4=>?_
     obtain⟨x26,ex26,y⟩:=Am y
     refine Dl 7 fun K hK=>?_
     refine wc [.c (.slice al x24.length am)] d4 b2 (DU bi b2.has x24 eg ex26) fun fl bn fz cz cg cp=>?_
     replace be:=be.mono cg
     obtain⟨af,ag,rfl,eh⟩:=cz
     refine⟨.one (.c (.slice af x26.length ag)),rfl,fun em (c7:Kn 31 [(a,0),(e,0),(p,0),(au,aw+(x_v11:Int).toNat*1)] ((tS 26 af x26.length ag)::(tS 25 al x24.length am)::(tS 20 aa x_v10.length ac)::(tI 4 x_v11)::(tP 3 2 0)::Ew) em)=>hK _ _ cp.plOk ?_⟩
     refine Dl 8 fun K hK=>?_
     refine wS 29 1 [.slice af x26.length ag] c7 cp fun b8 en fm (c8:Kn 31 [(a,0),(e,0),(p,0),(au,aw+(x_v11:Int).toNat*1)] ((tS 27 b8 1 1)::(tS 26 af x26.length ag)::(tS 25 al x24.length am)::(tS 20 aa x_v10.length ac)::(tI 4 x_v11)::(tP 3 2 0)::Ew) en) bu=>?_
     have bp:Ag bn ([x26]:List (List Int)) ([.slice af x26.length ag]:List Value):=⟨_,_,rfl,((Ad eh):rep bn (x26:List Int) _),rfl⟩
     refine hK _ _ bu.plOk ?_
     obtain⟨x28,ex28,y⟩:=Am y
     obtain⟨b4,d5⟩:=AU ex28
     refine Dl 9 fun K hK=>?_
     refine AG 0 24 1 _ (x28.length) _ ([.slice af x26.length ag]:List Value) c8 bu rfl rfl (by decide) rfl (by rfl) (by kernel_rfl) (by rfl) (by rfl) (Ag.len bp) (bu.rowCell (i:=1) rfl) bp.one (by rw [b4]; simp <;> omega) (by rw [b4]; exact d5) (by decide) fun ay a1 cu ep fn c6 (c9:Kn 31 [(a,0),(e,0),(p,0),(au,aw+(x_v11:Int).toNat*1)] ((tS 28 ay x28.length a1)::(tS 27 b8 1 1)::(tS 26 af x26.length ag)::(tS 25 al x24.length am)::(tS 20 aa x_v10.length ac)::(tI 4 x_v11)::(tP 3 2 0)::Ew) ep) bv=>?_
     have c3:Ag bn x28 (ax++([.slice af x26.length ag]:List Value)):=by rw [b4]; exact Ag.append be bp
     obtain rfl:cu=0:=Nat.le_zero.1 c6
     refine hK _ _ bv.plOk ?_
     refine Dr [10] (dn 10) ((tP 29 2 2)::(tS 28 ay x28.length a1)::(tI 4 x_v11)::(tP 3 2 0)::Ew) c9 bv fun er da=>?_
     refine CB 11 rfl (by kernel_rfl) (by decide) (rfl) (by kernel_rfl) fun K hK=>?_
     refine FH 2 2 (.c (.slice ay x28.length a1)) [.slice q x7.length u,.slice s x10.length x,.slice ay x28.length a1] da bv fun fp db ch=>hK _ _ ?_
     have dc:Kn 31 [(a,0),(e,0),(p,0),(au,aw+(x_v11:Int).toNat*1)] ((tI 4 x_v11)::(tP 3 2 0)::Ew) er:=db.kp
     refine E2 (by kernel_rfl) (Aa (Rk 0 3 ((tI 4 (IntKind.i64.wrap (x_v11+1)))::(tP 3 2 0)::Ew) dc ch fun fa dd=>?_))
     refine wf ?_
     exact XY bi ⟨Nat.lt_succ_self _,XY x28 ⟨IntKind.i64.wrap (x_v11+1),ay,a1,ax++([.slice af x26.length ag]:List Value),_,_,rfl,(dd.keep [4,3,2,1] (by rfl)).cut 3 (by kernel_rfl),(ch.cutRw 1).cutPl 3 (by kernel_rfl),XU an cg,c3,y⟩⟩
    ·
     rw [bo,XV] at y
     refine wp_exit ?_
     obtain rfl:=XZ y
     exact XY aa ⟨ac,ax,_,_,rfl,br.kp,ao,an,be⟩
  ·
   rintro _ fq ⟨ab,ad,a6,b6,bc,rfl,de,ci,cc,bq⟩
   refine XT (Aa (Rk 0 1 [tA 30 [.slice q x7.length u,.slice s x10.length x,.slice ab z.length ad],tP 2 1 0] de ci fun es dg=>?_))
   refine wl fun K hK=>?_
   refine FH 1 0 (.agg [.slice q x7.length u,.slice s x10.length x,.slice ab z.length ad]) [.slice q x7.length u,.slice s x10.length x,.slice ab z.length ad] dg ci fun e2 dh cj=>hK _ _ ?_
   have di:Kn 31 [(a,0),(e,0),(p,0)] [tP 2 1 0] es:=dh.kp
   refine wf (wp_ret ?_)
   obtain⟨bm,bs,ei,bw⟩:=cj.settle (i:=0) rfl
   replace a4:=a4.mono (XU cc bs)
   replace a5:=a5.mono (XU cc bs)
   replace bq:=bq.mono bs
   replace bw:Ai ⟨w,h,A3⟩ bm [(a,0),(e,0),(p,0)] [⟨GV g t_ k d f l m,some 38⟩,⟨[.slice q x7.length u,.slice s x10.length x,.slice ab z.length ad],some 52⟩,⟨[.slice q x7.length u,.slice s x10.length x,.slice ab z.length ad],some 52⟩] [⟨ab,z.length,ad,29,1,a6,(a6:List Value).length⟩] e2:=bw
   have ec:Az bm ab ad z:=⟨_,bq,ei,cj.rowCap (i:=0) rfl⟩
   obtain rfl:=XZ H
   exact rt (.one (.agg [.slice q x7.length u,.slice s x10.length x,.slice ab z.length ad])) di bw ⟨_,rfl,((Ab (Ad a4) (Ab (Ad a5) (Ad ec))):rep bm ((Au.mk x7 x10 z):Au) _)⟩
 refine D5 (fun W=>∀ (ar:Nat),∀ (aq:Option Addr),∀ (av:Nat),∀ a' w',(∃ (b5:Array Value)(bb:Ae),a' = ⟨b5,[]⟩∧Kn 31 [(a,0),(e,0),(ar,0)] ((tP 3 2 0)::(tS 7 aq x7.length av)::(tS 9 d t_.turns.length f)::Ew) b5∧Ai ⟨w,h,A3⟩ bb [(a,0),(e,0),(ar,0)] (Jy g t_ k d f l m) [] w'∧Ae.le h bb∧Az bb aq av x7)→W [(a,0),(e,0),(ar,0)] (Jy g t_ k d f l m) [2,7,4,3,1,0] a' w') ?_ (fun cq=>?_)
 ·
  intro ar aq av
  rintro _ fr ⟨b5,bb,rfl,dj,ck,cd,b3⟩
  replace ae:=ae.mono cd
  refine Dl 5 fun K hK=>?_
  refine wc [.c (.slice d t_.turns.length f)] dj ck (DU n ck.has t_.turns ae ex10) fun fh e8 fs cv ce bx=>?_
  replace b3:=b3.mono ce
  obtain⟨a7,ba,rfl,ed⟩:=cv
  refine⟨.one (.c (.slice a7 x10.length ba)),rfl,fun et (dk:Kn 31 [(a,0),(e,0),(ar,0)] ((tS 10 a7 x10.length ba)::(tP 3 2 0)::(tS 7 aq x7.length av)::(tS 9 d t_.turns.length f)::Ew) et)=>hK _ _ bx.plOk ?_⟩
  refine Dr [6] [6,5,2,7,4,3,1,0] ((tA 11 [.slice aq x7.length av,.slice a7 x10.length ba,.slice none 0 0])::(tP 3 2 0)::Ew) dk bx fun fb dl=>?_
  refine B1 [6,5,2,7,4,3,1,0] (by kernel_rfl) (by rfl) (cr ar aq av a7 ba _ _ ?_)
  exact XY _ ⟨_,rfl,dl.kp,bx,XU cd ce,b3,ed⟩
 refine HD 2 7 rfl rfl (by kernel_rfl) (by decide) (rfl) (rfl) (fun K hK=>?_) (fun K hK=>?_)
 ·
  refine wc [.c (.slice g t_.tm.length k)] cb b1 (DU n b1.has t_.tm ak ex7) fun fi c0 ft cw a3 bf=>?_
  replace ak:=ak.mono a3
  replace ae:=ae.mono a3
  replace ap:=ap.mono a3
  obtain⟨ai,aj,rfl,bh⟩:=cw
  refine⟨.one (.c (.slice ai x7.length aj)),rfl,fun eu (ca:Kn 31 [(a,0),(e,0),(0,0)] ((tS 7 ai x7.length aj)::(M9 d t_ f g k)) eu)=>hK _ _ bf.plOk ?_⟩
  refine HD 5 7 rfl rfl (by kernel_rfl) (by decide) (rfl) (rfl) (fun K hK=>?_) (fun K hK=>?_)
  ·
   refine wc [.c (.slice d t_.turns.length f)] ca bf (DU n bf.has t_.turns ae ex10) fun fj c1 fv cx cf bz=>?_
   replace bh:=bh.mono cf
   obtain⟨az,a2,rfl,ee⟩:=cx
   refine⟨.one (.c (.slice az x10.length a2)),rfl,fun ev (dp:Kn 31 [(a,0),(e,0),(0,0)] ((tS 10 az x10.length a2)::(tS 7 ai x7.length aj)::(M9 d t_ f g k)) ev)=>hK _ _ bz.plOk ?_⟩
   refine Dr [6] [6,5,2,4,3,1,0] ((tA 11 [.slice ai x7.length aj,.slice az x10.length a2,.slice none 0 0])::Ew) dp bz fun fc dq=>?_
   refine Dl 7 fun K hK=>?_
   refine SH 2 GU dq bz fun a8 ew e3 (dr:Kn 31 [(a,0),(e,0),(a8,0)] ((tP 3 2 0)::(tA 11 [.slice ai x7.length aj,.slice az x10.length a2,.slice none 0 0])::Ew) ew) (cl:Ai ⟨w,h,A3⟩ c1 [(a,0),(e,0),(a8,0)] (Jy g t_ k d f l m) [] e3)=>hK _ _ (AH.unset 2 rfl (by kernel_rfl) cl.plOk) (Iv (e':=[(a,0),(e,0),(a8,0)]) (pl':=(Jy g t_ k d f l m)) (fun _ hp=>hp.unset 2 rfl (by kernel_rfl)) ?_)
   refine B1 [6,5,2,7,4,3,1,0] (by kernel_rfl) (by rfl) (cr a8 ai aj az a2 _ _ ?_)
   exact XY _ ⟨_,rfl,dr.kp,cl,XU a3 cf,bh,ee⟩
  ·
   refine SH 2 GU ca bf fun a9 ex e4 (ds:Kn 31 [(a,0),(e,0),(a9,0)] ((tP 3 2 0)::(tS 7 ai x7.length aj)::(M9 d t_ f g k)) ex) (cm:Ai ⟨w,h,A3⟩ c0 [(a,0),(e,0),(a9,0)] (Jy g t_ k d f l m) [] e4)=>hK _ _ (AH.unset 2 rfl (by kernel_rfl) cm.plOk) (Iv (e':=[(a,0),(e,0),(a9,0)]) (pl':=(Jy g t_ k d f l m)) (fun _ hp=>hp.unset 2 rfl (by kernel_rfl)) ?_)
   refine B1 [2,7,4,3,1,0] (by kernel_rfl) (by rfl) (cq a9 ai aj _ _ ?_)
   exact XY _ ⟨_,rfl,ds.kp,cm,a3,bh⟩
 ·
  refine SH 2 GU cb b1 fun a0 ey e5 (du:Kn 31 [(a,0),(e,0),(a0,0)] ((tP 3 2 0)::(M9 d t_ f g k)) ey) (b0:Ai ⟨w,h,A3⟩ h [(a,0),(e,0),(a0,0)] (Jy g t_ k d f l m) [] e5)=>hK _ _ (AH.unset 2 rfl (by kernel_rfl) b0.plOk) (Iv (e':=[(a,0),(e,0),(a0,0)]) (pl':=(Jy g t_ k d f l m)) (fun _ hp=>hp.unset 2 rfl (by kernel_rfl)) ?_)
  refine Dl 2 fun K hK=>?_
  refine wc [.c (.slice g t_.tm.length k)] du b0 (DU n b0.has t_.tm ak ex7) fun fk e9 fw cy d6 cn=>?_
  obtain⟨bk,bl,rfl,ef⟩:=cy
  refine⟨.one (.c (.slice bk x7.length bl)),rfl,fun e0 (dv:Kn 31 [(a,0),(e,0),(a0,0)] ((tS 7 bk x7.length bl)::(tP 3 2 0)::(M9 d t_ f g k)) e0)=>hK _ _ cn.plOk ?_⟩
  refine B1 [2,7,4,3,1,0] (by kernel_rfl) (by rfl) (cq a0 bk bl _ _ ?_)
  exact XY _ ⟨_,rfl,dv.kp,cn,d6,ef⟩
end Go.Proofs.YtokchpjijlebiaaGreat
