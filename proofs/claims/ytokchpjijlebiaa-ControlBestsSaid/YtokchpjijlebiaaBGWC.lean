/- Each call computes its plain function. -/
import Derived.Test.YtokchpjijlebiaaProg
import Derived.Test.YtokchpjijlebiaaBGP0
import Derived.Test.YtokchpjijlebiaaBGWA
import Derived.Test.YtokchpjijlebiaaBGWB
set_option linter.all false
namespace Go.Proofs.Ytokchpjijlebiaa
open Go Go.RowKit
open Rep (rep)
open KRep (kv)
open VRep (rv)
abbrev Od (x74:A7):List SC:=[.int .i64 x74.stop,.int .i64 x74.tm]
abbrev P2 (x80:A7):List SC:=[.int .i64 x80.stop,.int .i64 x80.tm]
abbrev K5 (x22:Cy):List SC:=[.int .i64 x22.stop,.int .i64 x22.tm.lo,.int .i64 x22.tm.hi]
abbrev D4 (ab:Option Addr) (t_:Bd) (ad:Nat) (ac:Option Addr) (ae:Nat) (p:Option Addr) (q:Nat):List SC:=[.slice ab t_.tm.length ad,.slice ac t_.turns.length ae,.slice p t_.legs.length q]
abbrev Dq (s:Option Addr) (a:Am) (y:Nat) (u:Option Addr) (z:Nat) (x:Option Addr) (aa:Nat):List SC:=[.slice s a.holds.length y,.slice u a.turns.length z,.slice x a.spares.length aa]
abbrev Cb (g:Option Addr) (r_:Af) (k:Nat) (e:Option Addr) (f:Nat) (b:Option Addr) (d:Nat):List SC:=[.slice g r_.legs.length k,.int .i64 r_.turn.lo,.int .i64 r_.turn.hi,.slice e r_.buses.length f,.slice b r_.spares.length d,.int .i64 r_.unit,.int .i64 r_.gap,.int .i64 r_.fr,.int .i64 r_.to_]
abbrev Oe (l m o ap aq:Nat) (x_v21:Int) (ax az a7 bb bi bn:Nat) (r_:Af):Ba:=[(l,0),(m,0),(o,0),(ap,aq+(x_v21:Int).toNat*1),(ax,az+(x_v21:Int).toNat*2),(a7,bb+(x_v21:Int).toNat*2),(bi,bn+(IntKind.i64.wrap (((r_.buses.length:Nat):Int)+x_v21):Int).toNat*1)]
abbrev Og (l m o al am:Nat) (x_v11:Int) (an ao ar au aw ay a6 ba bh bm:Nat):Ba:=[(l,0),(m,0),(o,0),(al,am+(x_v11:Int).toNat*3),(an,ao+(x_v11:Int).toNat*1),(ar,au+(x_v11:Int).toNat*1),(aw,ay+(x_v11:Int).toNat*1),(a6,ba+(x_v11:Int).toNat*1),(bh,bm+(x_v11:Int).toNat*1)]
abbrev K6 (x28 x33:Int) (r_:Af) (x22:Cy) (g:Option Addr) (k:Nat) (e:Option Addr) (f:Nat) (b:Option Addr) (d:Nat) (af:Option Addr) (x_v10:List (List Int)) (ag:Nat) (x_v11:Int):TM:=[tI 38 (IntKind.i64.wrap (x28+(IntKind.i64.wrap (x33*r_.unit)))),tI 24 x22.stop,tA 18 (Cb g r_ k e f b d),tS 17 af x_v10.length ag,tI 8 x_v11,tP 5 2 0,tP 4 1 0,tP 3 0 0]
abbrev H8 (g:Option Addr) (r_:Af) (k:Nat) (e:Option Addr) (f:Nat) (b:Option Addr) (d:Nat) (ah:Option Addr) (x_v20:List (List Int)) (ai:Nat) (x_v21:Int):TM:=[tA 70 (Cb g r_ k e f b d),tS 69 ah x_v20.length ai,tI 9 x_v21,tP 5 2 0,tP 4 1 0,tP 3 0 0]
abbrev CT:TM:=[tP 5 2 0,tP 4 1 0,tP 3 0 0]
set_option maxRecDepth 100000 in
set_option maxHeartbeats 4000000 in
theorem RX (n:Nat) {h:Ae} {w:World} (hh:Dn h w) (r_:Af) {cs_r_:List Value} (hx_r_:rep h r_ cs_r_) (a:Am) {cs_a:List Value} (hx_a:rep h a cs_a) (t_:Bd) {cs_t_:List Value} (hx_t_:rep h t_ cs_t_) {r:List (List Int)} (H:Lp n r_ a t_=some r) :
  Calls Try.prog 96 #[.agg cs_r_.toArray,.agg cs_a.toArray,.agg cs_t_.toArray] w (Dp (fun h v=>∃ a c,v=.slice a r.length c∧A6 h a c r) h w):=by
 obtain⟨_,_,rfl,⟨g,k,rfl,bq⟩,⟨_,_,rfl,⟨_,_,rfl,rfl,rfl⟩,⟨_,_,rfl,⟨e,f,rfl,bl⟩,⟨_,_,rfl,⟨b,d,rfl,bg⟩,⟨_,_,rfl,rfl,⟨_,_,rfl,rfl,⟨_,_,rfl,rfl,rfl⟩⟩⟩⟩⟩⟩⟩:=hx_r_
 obtain⟨_,_,rfl,⟨s,y,rfl,bv⟩,⟨_,_,rfl,⟨u,z,rfl,bw⟩,⟨x,aa,rfl,bx⟩⟩⟩:=hx_a
 obtain⟨_,_,rfl,⟨ab,ad,rfl,bz⟩,⟨_,_,rfl,⟨ac,ae,rfl,b0⟩,⟨p,q,rfl,bp⟩⟩⟩:=hx_t_
 refine enter 96 [.agg (Cb g r_ k e f b d),.agg (Dq s a y u z x aa),.agg (D4 ab t_ ad ac ae p q)] Try.func96 rfl rfl rfl rfl fun t hk=>?_
 have hm:=Ah.begin h w hh
 unfold Lp at H
 refine XT (Aa (wl fun K hK=>?_))
 refine wb (.agg (Cb g r_ k e f b d)) hk hm fun l h0 h9 (fi:Kn 96 [(l,0)] [tP 3 0 0,tA 0 (Cb g r_ k e f b d),tA 1 (Dq s a y u z x aa),tA 2 (D4 ab t_ ad ac ae p q)] h0) (f2:Ah ⟨w,h,Aj⟩ h [(l,0)] [⟨Cb g r_ k e f b d,some 28⟩] [] h9)=>hK _ _ ?_
 refine wl fun K hK=>?_
 refine wb (.agg (Dq s a y u z x aa)) fi f2 fun m h4 ie (fp:Kn 96 [(l,0),(m,0)] [tP 4 1 0,tP 3 0 0,tA 0 (Cb g r_ k e f b d),tA 1 (Dq s a y u z x aa),tA 2 (D4 ab t_ ad ac ae p q)] h4) (f3:Ah ⟨w,h,Aj⟩ h [(l,0),(m,0)] [⟨Cb g r_ k e f b d,some 28⟩,⟨Dq s a y u z x aa,some 50⟩] [] ie)=>hK _ _ ?_
 refine wl fun K hK=>?_
 refine wb (.agg (D4 ab t_ ad ac ae p q)) fp f3 fun o h5 dv (fq:Kn 96 [(l,0),(m,0),(o,0)] [tP 5 2 0,tP 4 1 0,tP 3 0 0,tA 0 (Cb g r_ k e f b d),tA 1 (Dq s a y u z x aa),tA 2 (D4 ab t_ ad ac ae p q)] h5) (cm:Ah ⟨w,h,Aj⟩ h [(l,0),(m,0),(o,0)] [⟨Cb g r_ k e f b d,some 28⟩,⟨Dq s a y u z x aa,some 50⟩,⟨D4 ab t_ ad ac ae p q,some 75⟩] [] dv)=>hK _ _ ?_
 refine Rk 3 1 CT fq cm fun jd fs=>?_
 refine wf (XT (Aa (Rk 0 1 ((tS 7 none 0 0)::CT) fs cm fun je ft=>?_)))
 refine wf (XT (XT (Aa (Rk 0 1 ((tI 8 0)::(tS 7 none 0 0)::CT) ft cm fun jf fu=>?_))))
 refine wf ?_
 have f4:Ah ⟨w,h,Aj⟩ h [(l,0),(m,0),(o,0)] [⟨Cb g r_ k e f b d,some 28⟩,⟨Dq s a y u z x aa,some 50⟩,⟨D4 ab t_ ad ac ae p q,some 75⟩] [⟨none,0,0,31,1,[],0⟩] dv:=cm.nilRow 31 1
 have ei:Ag h ([]:List (List Int)) []:=Ag.nil
 obtain⟨b2,dk,H⟩:=Aq H
 refine Av (fun a' w'=>∃ (b6:Option Addr)(b9:Nat)(co:List Value)(dh:Array Value)(b1:Ae),a' = ⟨dh,[]⟩∧Kn 96 [(l,0),(m,0),(o,0)] ((tS 7 b6 b2.length b9)::CT) dh∧Ah ⟨w,h,Aj⟩ b1 [(l,0),(m,0),(o,0)] [⟨Cb g r_ k e f b d,some 28⟩,⟨Dq s a y u z x aa,some 50⟩,⟨D4 ab t_ ad ac ae p q,some 75⟩] [⟨b6,b2.length,b9,31,1,co,0⟩] w'∧Ae.le h b1∧Ag b1 b2 co) ?_ ?_
 ·
  refine wp_block ?_
  refine Ar (fun hn a' w'=>∃ (x_v10:List (List Int))(x_v11:Int)(af:Option Addr)(ag:Nat)(av:List Value)(di:Array Value)(a8:Ae),a' = ⟨di,[]⟩∧Kn 96 [(l,0),(m,0),(o,0)] ((tI 8 x_v11)::(tS 7 af x_v10.length ag)::CT) di∧Ah ⟨w,h,Aj⟩ a8 [(l,0),(m,0),(o,0)] [⟨Cb g r_ k e f b d,some 28⟩,⟨Dq s a y u z x aa,some 50⟩,⟨D4 ab t_ ad ac ae p q,some 75⟩] [⟨af,x_v10.length,ag,31,1,av,0⟩] w'∧Ae.le h a8∧Ag a8 x_v10 av∧ET hn r_ a t_ x_v10 x_v11=some b2) n ?_ ?_
  ·
   exact XY ([]:List (List Int)) ⟨0,none,0,[],_,_,rfl,fu.kp,f4,Ae.le_refl _,ei,dk⟩
  ·
   rintro cn _ b3 ⟨x_v10,x_v11,af,ag,av,di,a8,rfl,fv,bu,a9,ci,aj⟩
   clear dk
   obtain _ | cn:=cn
   ·
    rw [ET] at aj; cases aj
   rw [ET] at aj
   replace bq:=bq.mono a9
   replace bl:=bl.mono a9
   replace bg:=bg.mono a9
   replace bv:=bv.mono a9
   replace bw:=bw.mono a9
   replace bx:=bx.mono a9
   replace bz:=bz.mono a9
   replace b0:=b0.mono a9
   replace bp:=bp.mono a9
   refine XT (XT (Aa (Rk 0 5 ((tB 14 (decide (x_v11<((r_.buses.length:Nat):Int))))::(tI 8 x_v11)::(tS 7 af x_v10.length ag)::CT) fv bu fun jg cz=>?_)))
   refine wf (wC (decide (x_v11<((r_.buses.length:Nat):Int))) cz (fun ct=>?_) (fun ct=>?_))
   ·
    rw [ct,XW] at aj
    refine wp_skip (XT (wp_block (An (by kernel_rfl) ?_)))
    replace bu:=bu.drew
    refine Ao [] [(l,0),(m,0),(o,0)] [⟨Cb g r_ k e f b d,some 28⟩,⟨Dq s a y u z x aa,some 50⟩,⟨D4 ab t_ ad ac ae p q,some 75⟩] ?_
    refine Dr [0,1,2,3,4] (dn 4) ((tI 21 x_v11)::(tS 20 e r_.buses.length f)::(tA 18 (Cb g r_ k e f b d))::(tS 17 af x_v10.length ag)::(tI 8 x_v11)::CT) cz bu fun jh fw=>?_
    obtain⟨x22,ex22,aj⟩:=Aq aj
    obtain⟨gd,go,hg⟩:=Ai ex22
    obtain⟨al,am,ip,d6,g5,ek⟩:=bl.get (by decide) hg
    obtain⟨_,_,rfl,rfl,⟨_,_,rfl,rfl,rfl⟩⟩:=g5
    have dc:Ah ⟨w,h,Aj⟩ a8 [(l,0),(m,0),(o,0),(al,am+(x_v11:Int).toNat*3)] [⟨Cb g r_ k e f b d,some 28⟩,⟨Dq s a y u z x aa,some 50⟩,⟨D4 ab t_ ad ac ae p q,some 75⟩,⟨K5 x22,none⟩] [⟨af,x_v10.length,ag,31,1,av,0⟩] (World.drew b3):=bu.addPlc (cs:=(K5 x22)) (fun j c hj=>ek j _ (Al hj)) rfl (by kernel_rfl) (by kernel_rfl)
    refine Ax 5 (x_v11) (K5 x22) (fun _ _ _ _ _ h=>h) rfl rfl (rfl) rfl (by decide) (by kernel_rfl) (by kernel_rfl) fw bu.plOk (by rfl) (by rfl) (by rfl) d6 (by rfl) gd go (by kernel_rfl) fun h6 (fx:Kn 96 [(l,0),(m,0),(o,0),(al,am+(x_v11:Int).toNat*3)] ((tP 22 3 0)::(tI 21 x_v11)::(tS 20 e r_.buses.length f)::(tA 18 (Cb g r_ k e f b d))::(tS 17 af x_v10.length ag)::(tI 8 x_v11)::CT) h6)=>?_
    refine Dr [6,7,8,9,10] (dn 10) ((tI 27 x_v11)::(tS 26 ab t_.tm.length ad)::(tI 24 x22.stop)::(tA 18 (Cb g r_ k e f b d))::(tS 17 af x_v10.length ag)::(tI 8 x_v11)::CT) fx dc fun ji fy=>?_
    obtain⟨x28,ex28,aj⟩:=Aq aj
    obtain⟨gf,gp,g7⟩:=Ai ex28
    obtain⟨an,ao,iq,d7,g6,el⟩:=bz.get (by decide) g7
    obtain rfl:=g6
    have c0:Ah ⟨w,h,Aj⟩ a8 [(l,0),(m,0),(o,0),(al,am+(x_v11:Int).toNat*3),(an,ao+(x_v11:Int).toNat*1)] [⟨Cb g r_ k e f b d,some 28⟩,⟨Dq s a y u z x aa,some 50⟩,⟨D4 ab t_ ad ac ae p q,some 75⟩,⟨K5 x22,none⟩,⟨[.int .i64 x28],none⟩] [⟨af,x_v10.length,ag,31,1,av,0⟩] (World.drew b3):=dc.addPlc (cs:=[.int .i64 x28]) (fun j c hj=>el j _ (Al hj)) rfl (by kernel_rfl) (by kernel_rfl)
    refine Ax 11 (x_v11) [.int .i64 x28] (fun _ _ _ _ _ h=>h) rfl rfl (rfl) rfl (by decide) (by kernel_rfl) (by kernel_rfl) fy dc.plOk (by rfl) (by rfl) (by rfl) d7 (by rfl) gf gp (by kernel_rfl) fun ho (eo:Kn 96 [(l,0),(m,0),(o,0),(al,am+(x_v11:Int).toNat*3),(an,ao+(x_v11:Int).toNat*1)] ((tP 28 4 0)::(tI 27 x_v11)::(tS 26 ab t_.tm.length ad)::(tI 24 x22.stop)::(tA 18 (Cb g r_ k e f b d))::(tS 17 af x_v10.length ag)::(tI 8 x_v11)::CT) ho)=>?_
    refine Dr [12,13,14,15] (dn 15) ((tI 32 x_v11)::(tS 31 s a.holds.length y)::(tI 29 x28)::(tI 24 x22.stop)::(tA 18 (Cb g r_ k e f b d))::(tS 17 af x_v10.length ag)::(tI 8 x_v11)::CT) eo c0 fun iu ep=>?_
    obtain⟨x33,ex33,aj⟩:=Aq aj
    obtain⟨f5,gg,g8⟩:=Ai ex33
    obtain⟨ar,au,ig,dy,gx,d8⟩:=bv.get (by decide) g8
    obtain rfl:=gx
    have c1:Ah ⟨w,h,Aj⟩ a8 [(l,0),(m,0),(o,0),(al,am+(x_v11:Int).toNat*3),(an,ao+(x_v11:Int).toNat*1),(ar,au+(x_v11:Int).toNat*1)] [⟨Cb g r_ k e f b d,some 28⟩,⟨Dq s a y u z x aa,some 50⟩,⟨D4 ab t_ ad ac ae p q,some 75⟩,⟨K5 x22,none⟩,⟨[.int .i64 x28],none⟩,⟨[.int .i64 x33],none⟩] [⟨af,x_v10.length,ag,31,1,av,0⟩] (World.drew b3):=c0.addPlc (cs:=[.int .i64 x33]) (fun j c hj=>d8 j _ (Al hj)) rfl (by kernel_rfl) (by kernel_rfl)
    refine Ax 16 (x_v11) [.int .i64 x33] (fun _ _ _ _ _ h=>h) rfl rfl (rfl) rfl (by decide) (by kernel_rfl) (by kernel_rfl) ep c0.plOk (by rfl) (by rfl) (by rfl) dy (by rfl) f5 gg (by kernel_rfl) fun hp (er:Kn 96 [(l,0),(m,0),(o,0),(al,am+(x_v11:Int).toNat*3),(an,ao+(x_v11:Int).toNat*1),(ar,au+(x_v11:Int).toNat*1)] ((tP 33 5 0)::(tI 32 x_v11)::(tS 31 s a.holds.length y)::(tI 29 x28)::(tI 24 x22.stop)::(tA 18 (Cb g r_ k e f b d))::(tS 17 af x_v10.length ag)::(tI 8 x_v11)::CT) hp)=>?_
    refine Dr [17,18,19,20,21,22,23,24] (dn 24) ((tI 41 x_v11)::(tS 40 u a.turns.length z)::(K6 x28 x33 r_ x22 g k e f b d af x_v10 ag x_v11)) er c1 fun iv es=>?_
    obtain⟨x42,ex42,aj⟩:=Aq aj
    obtain⟨f6,gh,g9⟩:=Ai ex42
    obtain⟨aw,ay,ih,dz,gy,d9⟩:=bw.get (by decide) g9
    obtain rfl:=gy
    have c2:Ah ⟨w,h,Aj⟩ a8 [(l,0),(m,0),(o,0),(al,am+(x_v11:Int).toNat*3),(an,ao+(x_v11:Int).toNat*1),(ar,au+(x_v11:Int).toNat*1),(aw,ay+(x_v11:Int).toNat*1)] [⟨Cb g r_ k e f b d,some 28⟩,⟨Dq s a y u z x aa,some 50⟩,⟨D4 ab t_ ad ac ae p q,some 75⟩,⟨K5 x22,none⟩,⟨[.int .i64 x28],none⟩,⟨[.int .i64 x33],none⟩,⟨[.int .i64 x42],none⟩] [⟨af,x_v10.length,ag,31,1,av,0⟩] (World.drew b3):=c1.addPlc (cs:=[.int .i64 x42]) (fun j c hj=>d9 j _ (Al hj)) rfl (by kernel_rfl) (by kernel_rfl)
    refine Ax 25 (x_v11) [.int .i64 x42] (fun _ _ _ _ _ h=>h) rfl rfl (rfl) rfl (by decide) (by kernel_rfl) (by kernel_rfl) es c1.plOk (by rfl) (by rfl) (by rfl) dz (by rfl) f6 gh (by kernel_rfl) fun hq (et:Kn 96 [(l,0),(m,0),(o,0),(al,am+(x_v11:Int).toNat*3),(an,ao+(x_v11:Int).toNat*1),(ar,au+(x_v11:Int).toNat*1),(aw,ay+(x_v11:Int).toNat*1)] ((tP 42 6 0)::(tI 41 x_v11)::(tS 40 u a.turns.length z)::(K6 x28 x33 r_ x22 g k e f b d af x_v10 ag x_v11)) hq)=>?_
    refine Dr [26,27,28,29] (dn 29) ((tI 46 x_v11)::(tS 45 ac t_.turns.length ae)::(tI 43 x42)::(K6 x28 x33 r_ x22 g k e f b d af x_v10 ag x_v11)) et c2 fun iw eu=>?_
    obtain⟨x47,ex47,aj⟩:=Aq aj
    obtain⟨f7,gi,ha⟩:=Ai ex47
    obtain⟨a6,ba,ii,d0,gz,ea⟩:=b0.get (by decide) ha
    obtain rfl:=gz
    have c3:Ah ⟨w,h,Aj⟩ a8 [(l,0),(m,0),(o,0),(al,am+(x_v11:Int).toNat*3),(an,ao+(x_v11:Int).toNat*1),(ar,au+(x_v11:Int).toNat*1),(aw,ay+(x_v11:Int).toNat*1),(a6,ba+(x_v11:Int).toNat*1)] [⟨Cb g r_ k e f b d,some 28⟩,⟨Dq s a y u z x aa,some 50⟩,⟨D4 ab t_ ad ac ae p q,some 75⟩,⟨K5 x22,none⟩,⟨[.int .i64 x28],none⟩,⟨[.int .i64 x33],none⟩,⟨[.int .i64 x42],none⟩,⟨[.int .i64 x47],none⟩] [⟨af,x_v10.length,ag,31,1,av,0⟩] (World.drew b3):=c2.addPlc (cs:=[.int .i64 x47]) (fun j c hj=>ea j _ (Al hj)) rfl (by kernel_rfl) (by kernel_rfl)
    refine Ax 30 (x_v11) [.int .i64 x47] (fun _ _ _ _ _ h=>h) rfl rfl (rfl) rfl (by decide) (by kernel_rfl) (by kernel_rfl) eu c2.plOk (by rfl) (by rfl) (by rfl) d0 (by rfl) f7 gi (by kernel_rfl) fun hr (ev:Kn 96 [(l,0),(m,0),(o,0),(al,am+(x_v11:Int).toNat*3),(an,ao+(x_v11:Int).toNat*1),(ar,au+(x_v11:Int).toNat*1),(aw,ay+(x_v11:Int).toNat*1),(a6,ba+(x_v11:Int).toNat*1)] ((tP 47 7 0)::(tI 46 x_v11)::(tS 45 ac t_.turns.length ae)::(tI 43 x42)::(K6 x28 x33 r_ x22 g k e f b d af x_v10 ag x_v11)) hr)=>?_
    refine Dr [31,32,33,34] (dn 34) ((tI 51 x_v11)::(tS 50 p t_.legs.length q)::(tI 48 x47)::(tI 43 x42)::(K6 x28 x33 r_ x22 g k e f b d af x_v10 ag x_v11)) ev c3 fun ix ew=>?_
    obtain⟨x52,ex52,aj⟩:=Aq aj
    obtain⟨f8,gj,hb⟩:=Ai ex52
    obtain⟨bh,bm,ij,d1,g0,eb⟩:=bp.get (by decide) hb
    obtain⟨bc,be,rfl,gq⟩:=g0
    have c4:Ah ⟨w,h,Aj⟩ a8 (Og l m o al am x_v11 an ao ar au aw ay a6 ba bh bm) [⟨Cb g r_ k e f b d,some 28⟩,⟨Dq s a y u z x aa,some 50⟩,⟨D4 ab t_ ad ac ae p q,some 75⟩,⟨K5 x22,none⟩,⟨[.int .i64 x28],none⟩,⟨[.int .i64 x33],none⟩,⟨[.int .i64 x42],none⟩,⟨[.int .i64 x47],none⟩,⟨[.slice bc x52.length be],none⟩] [⟨af,x_v10.length,ag,31,1,av,0⟩] (World.drew b3):=c3.addPlc (cs:=[.slice bc x52.length be]) (fun j c hj=>eb j _ (Al hj)) rfl (by kernel_rfl) (by kernel_rfl)
    refine Ax 35 (x_v11) [.slice bc x52.length be] (fun _ _ _ _ _ h=>h) rfl rfl (rfl) rfl (by decide) (by kernel_rfl) (by kernel_rfl) ew c3.plOk (by rfl) (by rfl) (by rfl) d1 (by rfl) f8 gj (by kernel_rfl) fun hs (ex:Kn 96 (Og l m o al am x_v11 an ao ar au aw ay a6 ba bh bm) ((tP 52 8 0)::(tI 51 x_v11)::(tS 50 p t_.legs.length q)::(tI 48 x47)::(tI 43 x42)::(K6 x28 x33 r_ x22 g k e f b d af x_v10 ag x_v11)) hs)=>?_
    refine Dr [36] (dn 36) ((tS 53 bc x52.length be)::(tI 48 x47)::(tI 43 x42)::(K6 x28 x33 r_ x22 g k e f b d af x_v10 ag x_v11)) ex c4 fun iy ey=>?_
    obtain⟨x54,ex54,aj⟩:=Aq aj
    refine Dl 37 fun K hK=>?_
    refine wc [.agg (Cb g r_ k e f b d),.c (.int .i64 x22.stop),.c (.int .i64 (IntKind.i64.wrap (x28+(IntKind.i64.wrap (x33*r_.unit))))),.c (.int .i64 x42),.c (.int .i64 x47),.c (.slice bc x52.length be)] ey c4 (K4 cn c4.has r_ ((Ab (Ad bq) (Ab (Ab Ac Ac) (Ab (Ad bl) (Ab (Ad bg) (Ab Ac (Ab Ac (Ab Ac Ac))))))):rep a8 r_ _) x22.stop (IntKind.i64.wrap (x28+(IntKind.i64.wrap (x33*r_.unit)))) x42 x47 x52 gq ex54) fun jj ca jl dw dq ds=>?_
    replace ci:=ci.mono dq
    obtain⟨a1,a3,rfl,gr⟩:=dw
    refine⟨.one (.c (.slice a1 x54.length a3)),rfl,fun ht (ez:Kn 96 (Og l m o al am x_v11 an ao ar au aw ay a6 ba bh bm) ((tS 54 a1 x54.length a3)::(tS 53 bc x52.length be)::(tI 48 x47)::(tI 43 x42)::(K6 x28 x33 r_ x22 g k e f b d af x_v10 ag x_v11)) ht)=>hK _ _ ds.plOk ?_⟩
    refine Dl 38 fun K hK=>?_
    refine wS 31 1 [.slice a1 x54.length a3] ez ds fun cf hu h7 (e0:Kn 96 (Og l m o al am x_v11 an ao ar au aw ay a6 ba bh bm) ((tS 55 cf 1 1)::(tS 54 a1 x54.length a3)::(tS 53 bc x52.length be)::(tI 48 x47)::(tI 43 x42)::(K6 x28 x33 r_ x22 g k e f b d af x_v10 ag x_v11)) hu) (c5:Ah ⟨w,h,Aj⟩ ca (Og l m o al am x_v11 an ao ar au aw ay a6 ba bh bm) [⟨Cb g r_ k e f b d,some 28⟩,⟨Dq s a y u z x aa,some 50⟩,⟨D4 ab t_ ad ac ae p q,some 75⟩,⟨K5 x22,none⟩,⟨[.int .i64 x28],none⟩,⟨[.int .i64 x33],none⟩,⟨[.int .i64 x42],none⟩,⟨[.int .i64 x47],none⟩,⟨[.slice bc x52.length be],none⟩] [⟨af,x_v10.length,ag,31,1,av,0⟩,⟨cf,1,1,31,1,([.slice a1 x54.length a3]:List Value),0⟩] h7)=>?_
    have cu:Ag ca ([x54]:List (List Int)) ([.slice a1 x54.length a3]:List Value):=⟨_,_,rfl,((Ad gr):rep ca (x54:List Int) _),rfl⟩
    refine hK _ _ c5.plOk ?_
    obtain⟨x56,ex56,aj⟩:=Aq aj
    obtain⟨dd,fz⟩:=A8 ex56
    refine Dl 39 fun K hK=>?_
    refine A3 0 24 1 _ (x56.length) _ ([.slice a1 x54.length a3]:List Value) e0 c5 rfl rfl (by decide) rfl (by rfl) (by kernel_rfl) (by rfl) (by rfl) (Ag.len cu) (c5.rowCell (i:=1) rfl) cu.one (by rw [dd]; simp) (by rw [dd]; exact fz) (by decide) fun b4 b7 dl hv h8 em (e1:Kn 96 (Og l m o al am x_v11 an ao ar au aw ay a6 ba bh bm) ((tS 56 b4 x56.length b7)::(tS 55 cf 1 1)::(tS 54 a1 x54.length a3)::(tS 53 bc x52.length be)::(tI 48 x47)::(tI 43 x42)::(K6 x28 x33 r_ x22 g k e f b d af x_v10 ag x_v11)) hv) (cj:Ah ⟨w,h,Aj⟩ ca (Og l m o al am x_v11 an ao ar au aw ay a6 ba bh bm) [⟨Cb g r_ k e f b d,some 28⟩,⟨Dq s a y u z x aa,some 50⟩,⟨D4 ab t_ ad ac ae p q,some 75⟩,⟨K5 x22,none⟩,⟨[.int .i64 x28],none⟩,⟨[.int .i64 x33],none⟩,⟨[.int .i64 x42],none⟩,⟨[.int .i64 x47],none⟩,⟨[.slice bc x52.length be],none⟩] [⟨b4,x56.length,b7,31,1,av++([.slice a1 x54.length a3]:List Value),dl⟩,⟨cf,1,1,31,1,([.slice a1 x54.length a3]:List Value),0⟩] h8)=>?_
    have ec:Ag ca x56 (av++([.slice a1 x54.length a3]:List Value)):=by rw [dd]; exact Ag.append ci cu
    obtain rfl:dl=0:=Nat.le_zero.1 em
    refine hK _ _ cj.plOk ?_
    refine Dr [40] (dn 40) ((tS 7 b4 x56.length b7)::(tI 8 x_v11)::CT) e1 cj fun iz e2=>?_
    refine Ay (by kernel_rfl) (Aa (Rk 0 3 ((tI 8 (IntKind.i64.wrap (x_v11+1)))::(tS 7 b4 x56.length b7)::CT) e2 cj fun i0 e3=>?_))
    refine wf ?_
    exact XY cn ⟨Nat.lt_succ_self _,XY x56 ⟨IntKind.i64.wrap (x_v11+1),b4,b7,av++([.slice a1 x54.length a3]:List Value),_,_,rfl,(e3.keep [8,7,5,4,3] (by rfl)).cut 3 (by kernel_rfl),(cj.cutRw 1).cutPl 3 (by kernel_rfl),XU a9 dq,ec,aj⟩⟩
   ·
    rw [ct,XV] at aj
    refine wp_exit ?_
    obtain rfl:=XZ aj
    exact XY af ⟨ag,av,_,_,rfl,cz.kp,bu,a9,ci⟩
 ·
  rintro _ jm ⟨b6,b9,co,dh,b1,rfl,e4,dt,bk,ej⟩
  replace bq:=bq.mono bk
  replace bl:=bl.mono bk
  replace bg:=bg.mono bk
  replace bv:=bv.mono bk
  replace bw:=bw.mono bk
  replace bx:=bx.mono bk
  replace bz:=bz.mono bk
  replace b0:=b0.mono bk
  replace bp:=bp.mono bk
  refine XT (XT (Aa (Rk 0 1 ((tI 9 0)::(tS 7 b6 b2.length b9)::CT) e4 dt fun i1 e5=>?_)))
  refine wf ?_
  obtain⟨br,dj,H⟩:=Aq H
  refine Av (fun a' w'=>∃ (bs:Option Addr)(bt:Nat)(ce:List Value)(df:Array Value)(ch:Ae),a' = ⟨df,[]⟩∧Kn 96 [(l,0),(m,0),(o,0)] [tS 7 bs br.length bt] df∧Ah ⟨w,h,Aj⟩ ch [(l,0),(m,0),(o,0)] [⟨Cb g r_ k e f b d,some 28⟩,⟨Dq s a y u z x aa,some 50⟩,⟨D4 ab t_ ad ac ae p q,some 75⟩] [⟨bs,br.length,bt,31,1,ce,0⟩] w'∧Ae.le b1 ch∧Ag ch br ce) ?_ ?_
  ·
   refine wp_block ?_
   refine Ar (fun hl a' w'=>∃ (x_v20:List (List Int))(x_v21:Int)(ah:Option Addr)(ai:Nat)(a0:List Value)(dg:Array Value)(bj:Ae),a' = ⟨dg,[]⟩∧Kn 96 [(l,0),(m,0),(o,0)] ((tI 9 x_v21)::(tS 7 ah x_v20.length ai)::CT) dg∧Ah ⟨w,h,Aj⟩ bj [(l,0),(m,0),(o,0)] [⟨Cb g r_ k e f b d,some 28⟩,⟨Dq s a y u z x aa,some 50⟩,⟨D4 ab t_ ad ac ae p q,some 75⟩] [⟨ah,x_v20.length,ai,31,1,a0,0⟩] w'∧Ae.le b1 bj∧Ag bj x_v20 a0∧Eu hl r_ a t_ x_v20 x_v21=some br) n ?_ ?_
   ·
    exact XY b2 ⟨0,b6,b9,co,_,_,rfl,e5.kp,dt,Ae.le_refl _,ej,dj⟩
   ·
    rintro cd _ cp ⟨x_v20,x_v21,ah,ai,a0,dg,bj,rfl,e6,ck,a5,cc,ak⟩
    clear dj
    obtain _ | cd:=cd
    ·
     rw [Eu] at ak; cases ak
    rw [Eu] at ak
    replace bq:=bq.mono a5
    replace bl:=bl.mono a5
    replace bg:=bg.mono a5
    replace bv:=bv.mono a5
    replace bw:=bw.mono a5
    replace bx:=bx.mono a5
    replace bz:=bz.mono a5
    replace b0:=b0.mono a5
    replace bp:=bp.mono a5
    refine XT (XT (Aa (Rk 0 5 ((tB 61 (decide (x_v21<((r_.spares.length:Nat):Int))))::(tI 9 x_v21)::(tS 7 ah x_v20.length ai)::CT) e6 ck fun i2 cx=>?_)))
    refine wf (wC (decide (x_v21<((r_.spares.length:Nat):Int))) cx (fun cq=>?_) (fun cq=>?_))
    ·
     rw [cq,XW] at ak
     refine wp_skip (XT (wp_block (XT (Aa (Rk 0 3 ((tI 66 x_v21)::(tS 65 x a.spares.length aa)::(tI 9 x_v21)::(tS 7 ah x_v20.length ai)::CT) cx ck fun i3 e7=>?_)))))
     obtain⟨x67,ex67,ak⟩:=Aq ak
     obtain⟨f9,gk,hc⟩:=Ai ex67
     obtain⟨ap,aq,ik,d2,g1,ed⟩:=bx.get (by decide) hc
     obtain rfl:=g1
     have bo:Ah ⟨w,h,Aj⟩ bj [(l,0),(m,0),(o,0),(ap,aq+(x_v21:Int).toNat*1)] [⟨Cb g r_ k e f b d,some 28⟩,⟨Dq s a y u z x aa,some 50⟩,⟨D4 ab t_ ad ac ae p q,some 75⟩,⟨[.bool x67],none⟩] [⟨ah,x_v20.length,ai,31,1,a0,0⟩] cp:=ck.addPlc (cs:=[.bool x67]) (fun j c hj=>ed j _ (Al hj)) rfl (by kernel_rfl) (by kernel_rfl)
     refine Bc 3 (x_v21) rfl rfl (rfl) rfl (by decide) e7 (by rfl) (by rfl) (by rfl) d2 (by rfl) f9 gk (by kernel_rfl) fun hw (e8:Kn 96 [(l,0),(m,0),(o,0),(ap,aq+(x_v21:Int).toNat*1)] ((tP 67 3 0)::(tI 66 x_v21)::(tS 65 x a.spares.length aa)::(tI 9 x_v21)::(tS 7 ah x_v20.length ai)::CT) hw)=>?_
     refine Rk 4 1 ((tB 68 x67)::(tI 9 x_v21)::(tS 7 ah x_v20.length ai)::CT) e8 bo fun i4 cy=>?_
     refine wf (wC (x67) cy (fun cr=>?_) (fun cr=>?_))
     ·
      rw [cr,XW] at ak
      refine An (by kernel_rfl) ?_
      replace bo:=bo.drew
      refine Ao [] [(l,0),(m,0),(o,0),(ap,aq+(x_v21:Int).toNat*1)] [⟨Cb g r_ k e f b d,some 28⟩,⟨Dq s a y u z x aa,some 50⟩,⟨D4 ab t_ ad ac ae p q,some 75⟩,⟨[.bool x67],none⟩] ?_
      refine Dr [0,1,2,3,4] (dn 4) ((tI 73 x_v21)::(tS 72 b r_.spares.length d)::(H8 g r_ k e f b d ah x_v20 ai x_v21)) cy bo fun i5 e9=>?_
      obtain⟨x74,ex74,ak⟩:=Aq ak
      obtain⟨ga,gl,hd⟩:=Ai ex74
      obtain⟨ax,az,il,d3,g2,ee⟩:=bg.get (by decide) hd
      obtain⟨_,_,rfl,rfl,rfl⟩:=g2
      have c6:Ah ⟨w,h,Aj⟩ bj [(l,0),(m,0),(o,0),(ap,aq+(x_v21:Int).toNat*1),(ax,az+(x_v21:Int).toNat*2)] [⟨Cb g r_ k e f b d,some 28⟩,⟨Dq s a y u z x aa,some 50⟩,⟨D4 ab t_ ad ac ae p q,some 75⟩,⟨[.bool x67],none⟩,⟨Od x74,none⟩] [⟨ah,x_v20.length,ai,31,1,a0,0⟩] (World.drew cp):=bo.addPlc (cs:=(Od x74)) (fun j c hj=>ee j _ (Al hj)) rfl (by kernel_rfl) (by kernel_rfl)
      refine Ax 5 (x_v21) (Od x74) (fun _ _ _ _ _ h=>h) rfl rfl (rfl) rfl (by decide) (by kernel_rfl) (by kernel_rfl) e9 bo.plOk (by rfl) (by rfl) (by rfl) d3 (by rfl) ga gl (by kernel_rfl) fun hx (fa:Kn 96 [(l,0),(m,0),(o,0),(ap,aq+(x_v21:Int).toNat*1),(ax,az+(x_v21:Int).toNat*2)] ((tP 74 4 0)::(tI 73 x_v21)::(tS 72 b r_.spares.length d)::(H8 g r_ k e f b d ah x_v20 ai x_v21)) hx)=>?_
      refine Dr [6,7,8,9,10] (dn 10) ((tI 79 x_v21)::(tS 78 b r_.spares.length d)::(tI 76 x74.stop)::(H8 g r_ k e f b d ah x_v20 ai x_v21)) fa c6 fun i6 fb=>?_
      obtain⟨x80,ex80,ak⟩:=Aq ak
      obtain⟨gb,gm,he⟩:=Ai ex80
      obtain⟨a7,bb,im,d4,g3,ef⟩:=bg.get (by decide) he
      obtain⟨_,_,rfl,rfl,rfl⟩:=g3
      have c7:Ah ⟨w,h,Aj⟩ bj [(l,0),(m,0),(o,0),(ap,aq+(x_v21:Int).toNat*1),(ax,az+(x_v21:Int).toNat*2),(a7,bb+(x_v21:Int).toNat*2)] [⟨Cb g r_ k e f b d,some 28⟩,⟨Dq s a y u z x aa,some 50⟩,⟨D4 ab t_ ad ac ae p q,some 75⟩,⟨[.bool x67],none⟩,⟨Od x74,none⟩,⟨P2 x80,none⟩] [⟨ah,x_v20.length,ai,31,1,a0,0⟩] (World.drew cp):=c6.addPlc (cs:=(P2 x80)) (fun j c hj=>ef j _ (Al hj)) rfl (by kernel_rfl) (by kernel_rfl)
      refine Ax 11 (x_v21) (P2 x80) (fun _ _ _ _ _ h=>h) rfl rfl (rfl) rfl (by decide) (by kernel_rfl) (by kernel_rfl) fb c6.plOk (by rfl) (by rfl) (by rfl) d4 (by rfl) gb gm (by kernel_rfl) fun hy (fc:Kn 96 [(l,0),(m,0),(o,0),(ap,aq+(x_v21:Int).toNat*1),(ax,az+(x_v21:Int).toNat*2),(a7,bb+(x_v21:Int).toNat*2)] ((tP 80 5 0)::(tI 79 x_v21)::(tS 78 b r_.spares.length d)::(tI 76 x74.stop)::(H8 g r_ k e f b d ah x_v20 ai x_v21)) hy)=>?_
      refine Dr [12,13,14,15,16,17,18,19,20] (dn 20) ((tI 89 (IntKind.i64.wrap (((r_.buses.length:Nat):Int)+x_v21)))::(tS 84 p t_.legs.length q)::(tI 82 x80.tm)::(tI 76 x74.stop)::(H8 g r_ k e f b d ah x_v20 ai x_v21)) fc c7 fun i7 fd=>?_
      obtain⟨x90,ex90,ak⟩:=Aq ak
      obtain⟨gc,gn,hf⟩:=Ai ex90
      obtain⟨bi,bn,io,d5,g4,eg⟩:=bp.get (by decide) hf
      obtain⟨bd,bf,rfl,gs⟩:=g4
      have c8:Ah ⟨w,h,Aj⟩ bj (Oe l m o ap aq x_v21 ax az a7 bb bi bn r_) [⟨Cb g r_ k e f b d,some 28⟩,⟨Dq s a y u z x aa,some 50⟩,⟨D4 ab t_ ad ac ae p q,some 75⟩,⟨[.bool x67],none⟩,⟨Od x74,none⟩,⟨P2 x80,none⟩,⟨[.slice bd x90.length bf],none⟩] [⟨ah,x_v20.length,ai,31,1,a0,0⟩] (World.drew cp):=c7.addPlc (cs:=[.slice bd x90.length bf]) (fun j c hj=>eg j _ (Al hj)) rfl (by kernel_rfl) (by kernel_rfl)
      refine Ax 21 (IntKind.i64.wrap (((r_.buses.length:Nat):Int)+x_v21)) [.slice bd x90.length bf] (fun _ _ _ _ _ h=>h) rfl rfl (rfl) rfl (by decide) (by kernel_rfl) (by kernel_rfl) fd c7.plOk (by rfl) (by rfl) (by rfl) d5 (by rfl) gc gn (by kernel_rfl) fun hz (fe:Kn 96 (Oe l m o ap aq x_v21 ax az a7 bb bi bn r_) ((tP 90 6 0)::(tI 89 (IntKind.i64.wrap (((r_.buses.length:Nat):Int)+x_v21)))::(tS 84 p t_.legs.length q)::(tI 82 x80.tm)::(tI 76 x74.stop)::(H8 g r_ k e f b d ah x_v20 ai x_v21)) hz)=>?_
      refine Dr [22] (dn 22) ((tS 91 bd x90.length bf)::(tI 82 x80.tm)::(tI 76 x74.stop)::(H8 g r_ k e f b d ah x_v20 ai x_v21)) fe c8 fun i8 ff=>?_
      obtain⟨x92,ex92,ak⟩:=Aq ak
      refine Dl 23 fun K hK=>?_
      refine wc [.agg (Cb g r_ k e f b d),.c (.int .i64 x74.stop),.c (.int .i64 x80.tm),.c (.int .i64 (-1)),.c (.int .i64 0),.c (.slice bd x90.length bf)] ff c8 (K4 cd c8.has r_ ((Ab (Ad bq) (Ab (Ab Ac Ac) (Ab (Ad bl) (Ab (Ad bg) (Ab Ac (Ab Ac (Ab Ac Ac))))))):rep bj r_ _) x74.stop x80.tm (-1) 0 x90 gs ex92) fun jk cb jn dx dr du=>?_
      replace cc:=cc.mono dr
      obtain⟨a2,a4,rfl,gu⟩:=dx
      refine⟨.one (.c (.slice a2 x92.length a4)),rfl,fun h1 (fg:Kn 96 (Oe l m o ap aq x_v21 ax az a7 bb bi bn r_) ((tS 92 a2 x92.length a4)::(tS 91 bd x90.length bf)::(tI 82 x80.tm)::(tI 76 x74.stop)::(H8 g r_ k e f b d ah x_v20 ai x_v21)) h1)=>hK _ _ du.plOk ?_⟩
      refine Dl 24 fun K hK=>?_
      refine wS 31 1 [.slice a2 x92.length a4] fg du fun cg h2 ia (fh:Kn 96 (Oe l m o ap aq x_v21 ax az a7 bb bi bn r_) ((tS 93 cg 1 1)::(tS 92 a2 x92.length a4)::(tS 91 bd x90.length bf)::(tI 82 x80.tm)::(tI 76 x74.stop)::(H8 g r_ k e f b d ah x_v20 ai x_v21)) h2) (c9:Ah ⟨w,h,Aj⟩ cb (Oe l m o ap aq x_v21 ax az a7 bb bi bn r_) [⟨Cb g r_ k e f b d,some 28⟩,⟨Dq s a y u z x aa,some 50⟩,⟨D4 ab t_ ad ac ae p q,some 75⟩,⟨[.bool x67],none⟩,⟨Od x74,none⟩,⟨P2 x80,none⟩,⟨[.slice bd x90.length bf],none⟩] [⟨ah,x_v20.length,ai,31,1,a0,0⟩,⟨cg,1,1,31,1,([.slice a2 x92.length a4]:List Value),0⟩] ia)=>?_
      have cw:Ag cb ([x92]:List (List Int)) ([.slice a2 x92.length a4]:List Value):=⟨_,_,rfl,((Ad gu):rep cb (x92:List Int) _),rfl⟩
      refine hK _ _ c9.plOk ?_
      obtain⟨x94,ex94,ak⟩:=Aq ak
      obtain⟨de,f0⟩:=A8 ex94
      refine Dl 25 fun K hK=>?_
      refine A3 0 24 1 _ (x94.length) _ ([.slice a2 x92.length a4]:List Value) fh c9 rfl rfl (by decide) rfl (by rfl) (by kernel_rfl) (by rfl) (by rfl) (Ag.len cw) (c9.rowCell (i:=1) rfl) cw.one (by rw [de]; simp) (by rw [de]; exact f0) (by decide) fun b5 b8 dm h3 ib en (fj:Kn 96 (Oe l m o ap aq x_v21 ax az a7 bb bi bn r_) ((tS 94 b5 x94.length b8)::(tS 93 cg 1 1)::(tS 92 a2 x92.length a4)::(tS 91 bd x90.length bf)::(tI 82 x80.tm)::(tI 76 x74.stop)::(H8 g r_ k e f b d ah x_v20 ai x_v21)) h3) (cl:Ah ⟨w,h,Aj⟩ cb (Oe l m o ap aq x_v21 ax az a7 bb bi bn r_) [⟨Cb g r_ k e f b d,some 28⟩,⟨Dq s a y u z x aa,some 50⟩,⟨D4 ab t_ ad ac ae p q,some 75⟩,⟨[.bool x67],none⟩,⟨Od x74,none⟩,⟨P2 x80,none⟩,⟨[.slice bd x90.length bf],none⟩] [⟨b5,x94.length,b8,31,1,a0++([.slice a2 x92.length a4]:List Value),dm⟩,⟨cg,1,1,31,1,([.slice a2 x92.length a4]:List Value),0⟩] ib)=>?_
      have eh:Ag cb x94 (a0++([.slice a2 x92.length a4]:List Value)):=by rw [de]; exact Ag.append cc cw
      obtain rfl:dm=0:=Nat.le_zero.1 en
      refine hK _ _ cl.plOk ?_
      refine Dr [26] (dn 26) ((tS 7 b5 x94.length b8)::(tI 9 x_v21)::CT) fj cl fun i9 fk=>?_
      refine Ay (by kernel_rfl) (Aa (Rk 0 3 ((tI 9 (IntKind.i64.wrap (x_v21+1)))::(tS 7 b5 x94.length b8)::CT) fk cl fun ja fl=>?_))
      refine wf ?_
      exact XY cd ⟨Nat.lt_succ_self _,XY x94 ⟨IntKind.i64.wrap (x_v21+1),b5,b8,a0++([.slice a2 x92.length a4]:List Value),_,_,rfl,(fl.keep [9,7,5,4,3] (by rfl)).cut 3 (by kernel_rfl),(cl.cutRw 1).cutPl 3 (by kernel_rfl),XU a5 dr,eh,ak⟩⟩
     ·
      rw [cr,XV] at ak
      refine wp_skip (Aa (Rk 0 3 ((tI 9 (IntKind.i64.wrap (x_v21+1)))::(tS 7 ah x_v20.length ai)::CT) cy bo fun jb fm=>?_))
      refine wf ?_
      exact XY cd ⟨Nat.lt_succ_self _,XY x_v20 ⟨IntKind.i64.wrap (x_v21+1),ah,ai,a0,_,_,rfl,(fm.keep [9,7,5,4,3] (by rfl)).cut 3 (by kernel_rfl),bo.cutPl 3 (by kernel_rfl),a5,cc,ak⟩⟩
    ·
     rw [cq,XV] at ak
     refine wp_exit ?_
     obtain rfl:=XZ ak
     exact XY ah ⟨ai,a0,_,_,rfl,cx.kp,ck,a5,cc⟩
  ·
   rintro _ ic ⟨bs,bt,ce,df,ch,rfl,fn,da,ir,cv⟩
   refine XT (Aa (Rk 0 2 [tS 6 bs br.length bt] fn da fun jc fo=>?_))
   refine wf (wp_ret ?_)
   obtain⟨dp,f1,gw,db⟩:=da.settle (i:=0) rfl
   replace cv:=cv.mono f1
   replace db:Ah ⟨w,h,Aj⟩ dp [(l,0),(m,0),(o,0)] [⟨Cb g r_ k e f b d,some 28⟩,⟨Dq s a y u z x aa,some 50⟩,⟨D4 ab t_ ad ac ae p q,some 75⟩] [⟨bs,br.length,bt,31,1,ce,(ce:List Value).length⟩] ic:=db
   have gv:A6 dp bs bt br:=⟨_,cv,gw,da.rowCap (i:=0) rfl⟩
   obtain rfl:=XZ H
   exact rt (.one (.c (.slice bs br.length bt))) fo db ⟨_,_,rfl,gv⟩
abbrev JF (x31:Rg):List SC:=[.int .i64 x31.lo,.int .i64 x31.hi]
abbrev Oh (x75:A7):List SC:=[.int .i64 x75.stop,.int .i64 x75.tm]
abbrev P3 (x81:A7):List SC:=[.int .i64 x81.stop,.int .i64 x81.tm]
abbrev TK (r_:Af):List SC:=[.int .i64 r_.turn.lo,.int .i64 r_.turn.hi]
abbrev Oi (x49:Cy):List SC:=[.int .i64 x49.stop,.int .i64 x49.tm.lo,.int .i64 x49.tm.hi]
abbrev P4 (x55:Cy):List SC:=[.int .i64 x55.stop,.int .i64 x55.tm.lo,.int .i64 x55.tm.hi]
abbrev LJ (a d e ay a1:Nat) (x_v11:Int):Ba:=[(a,0),(d,0),(e,0),(ay,a1+(x_v11:Int).toNat*2)]
abbrev LK (a d e an aq:Nat) (x_v21:Int) (ax a0:Nat):Ba:=[(a,0),(d,0),(e,0),(an,aq+(x_v21:Int).toNat*3),(ax,a0+(x_v21:Int).toNat*3)]
abbrev Na (a d e ar aw:Nat) (x_v31:Int) (a4 a5:Nat):Ba:=[(a,0),(d,0),(e,0),(ar,aw+(x_v31:Int).toNat*2),(a4,a5+(x_v31:Int).toNat*2)]
abbrev BA:List SC:=[.slice none 0 0,.int .i64 0,.int .i64 0,.slice none 0 0,.slice none 0 0,.int .i64 0,.int .i64 0,.int .i64 0,.int .i64 0]
abbrev I2 (x9:Rg) (r_:Af):List SC:=[.slice none 0 0,.int .i64 x9.lo,.int .i64 x9.hi,.slice none 0 0,.slice none 0 0,.int .i64 r_.unit,.int .i64 r_.gap,.int .i64 r_.fr,.int .i64 r_.to_]
abbrev Oj (ai:Option Addr) (x_v10:List Rg) (aj:Nat) (x9:Rg) (r_:Af):List SC:=[.slice ai x_v10.length aj,.int .i64 x9.lo,.int .i64 x9.hi,.slice none 0 0,.slice none 0 0,.int .i64 r_.unit,.int .i64 r_.gap,.int .i64 r_.fr,.int .i64 r_.to_]
abbrev Ms (g:Option Addr) (f:List Rg) (k:Nat) (x9:Rg) (ab:Option Addr) (x_v20:List Cy) (ac:Nat) (r_:Af):List SC:=[.slice g f.length k,.int .i64 x9.lo,.int .i64 x9.hi,.slice ab x_v20.length ac,.slice none 0 0,.int .i64 r_.unit,.int .i64 r_.gap,.int .i64 r_.fr,.int .i64 r_.to_]
abbrev FT (g:Option Addr) (f:List Rg) (k:Nat) (x9:Rg) (y:Option Addr) (x:List Cy) (z:Nat) (ae:Option Addr) (ad:List A7) (af:Nat) (r_:Af):List SC:=[.slice g f.length k,.int .i64 x9.lo,.int .i64 x9.hi,.slice y x.length z,.slice ae ad.length af,.int .i64 r_.unit,.int .i64 r_.gap,.int .i64 r_.fr,.int .i64 r_.to_]
abbrev Mt (g:Option Addr) (f:List Rg) (k:Nat) (x9:Rg) (y:Option Addr) (x:List Cy) (z:Nat) (ag:Option Addr) (x_v30:List A7) (ah:Nat) (r_:Af):List SC:=[.slice g f.length k,.int .i64 x9.lo,.int .i64 x9.hi,.slice y x.length z,.slice ag x_v30.length ah,.int .i64 r_.unit,.int .i64 r_.gap,.int .i64 r_.fr,.int .i64 r_.to_]
abbrev Bf (s:Option Addr) (r_:Af) (u:Nat) (l:Option Addr) (p:Nat) (m:Option Addr) (q:Nat):List SC:=[.slice s r_.legs.length u,.int .i64 r_.turn.lo,.int .i64 r_.turn.hi,.slice l r_.buses.length p,.slice m r_.spares.length q,.int .i64 r_.unit,.int .i64 r_.gap,.int .i64 r_.fr,.int .i64 r_.to_]
abbrev Mu (s:Option Addr) (r_:Af) (u:Nat) (l:Option Addr) (p:Nat) (m:Option Addr) (q:Nat):List CP:=[⟨Bf s r_ u l p m q,some 28⟩,⟨BA,some 43⟩,⟨BA,some 43⟩]
abbrev BD:TM:=[tP 3 2 0,tP 2 1 0,tP 1 0 0]
abbrev Ok (r_:Af):TM:=[tI 17 r_.to_,tI 15 r_.fr,tI 13 r_.gap,tI 11 r_.unit,tA 8 (TK r_),tP 2 1 0,tP 1 0 0]
abbrev I3 (ab:Option Addr) (x_v20:List Cy) (ac:Nat) (x_v21:Int):TM:=(tS 45 ab x_v20.length ac)::(tI 5 x_v21)::BD
set_option maxRecDepth 100000 in
set_option maxHeartbeats 4000000 in
theorem LL (n:Nat) {h:Ae} {w:World} (hh:Dn h w) (r_:Af) {cs_r_:List Value} (hx_r_:rep h r_ cs_r_) {r:Af} (H:GI n r_=some r) :
  Calls Try.prog 15 #[.agg cs_r_.toArray] w (Dp (fun h v=>∃ cs,v=.agg cs.toArray∧rep h r cs) h w):=by
 obtain⟨_,_,rfl,⟨s,u,rfl,az⟩,⟨_,_,rfl,⟨_,_,rfl,rfl,rfl⟩,⟨_,_,rfl,⟨l,p,rfl,av⟩,⟨_,_,rfl,⟨m,q,rfl,am⟩,⟨_,_,rfl,rfl,⟨_,_,rfl,rfl,⟨_,_,rfl,rfl,rfl⟩⟩⟩⟩⟩⟩⟩:=hx_r_
 refine enter 89 [.agg (Bf s r_ u l p m q)] Try.func15 rfl rfl rfl rfl fun t hk=>?_
 have hm:=Ah.begin h w hh
 unfold GI at H
 refine XT (Aa (wl fun K hK=>?_))
 refine wb (.agg (Bf s r_ u l p m q)) hk hm fun a h3 iw (fb:Kn 89 [(a,0)] [tP 1 0 0,tA 0 (Bf s r_ u l p m q)] h3) (g0:Ah ⟨w,h,Aj⟩ h [(a,0)] [⟨Bf s r_ u l p m q,some 28⟩] [] iw)=>hK _ _ ?_
 refine wl fun K hK=>?_
 refine wa BA fb g0 fun d ea ec (fi:Kn 89 [(a,0),(d,0)] [tP 2 1 0,tP 1 0 0,tA 0 (Bf s r_ u l p m q)] ea) (b1:Ah ⟨w,h,Aj⟩ h [(a,0),(d,0)] [⟨Bf s r_ u l p m q,some 28⟩,⟨BA,some 43⟩] [] ec)=>hK _ _ ?_
 have fm:Kn 89 [(a,0),(d,0)] [tP 2 1 0,tP 1 0 0] ea:=fi.kp
 refine wf (XT (An (by kernel_rfl) ?_))
 replace b1:=b1.drew
 refine Ao [] [(a,0),(d,0)] [⟨Bf s r_ u l p m q,some 28⟩,⟨BA,some 43⟩] ?_
 refine Dr [0,1,3,4,5,6,7,8,9,10] [10,9,8,7,6,5,4,3,1,0] (Ok r_) fm b1 fun ia fu=>?_
 obtain⟨x9,ex9,H⟩:=Aq H
 have du:Kn 89 [(a,0),(d,0),(0,0)] (Ok r_) ia:=fu.push (0,0) (by kernel_rfl)
 have cx:Ah ⟨w,h,Aj⟩ h [(a,0),(d,0),(0,0)] [⟨Bf s r_ u l p m q,some 28⟩,⟨BA,some 43⟩,⟨[],none⟩] [] (World.drew ec):=b1.addPlc (b:=0) (o:=0) (cs:=[]) (fun j c hj=>by simp at hj) rfl (by kernel_rfl) (by kernel_rfl)
 refine NS (e':=[(a,0),(d,0),(0,0)]) (pl':=[⟨Bf s r_ u l p m q,some 28⟩,⟨BA,some 43⟩,⟨[],none⟩]) (fun _ hp=>hp.pop (Nat.le_of_eq rfl) (by kernel_rfl)) ?_
 refine Cl (fun W=>∀ (e:Nat),∀ a' w',(∃ (b6:Array Value)(be:Ae),a' = ⟨b6,[]⟩∧Kn 89 [(a,0),(d,0),(e,0)] [tP 3 2 0,tA 18 (I2 x9 r_),tP 2 1 0,tP 1 0 0] b6∧Ah ⟨w,h,Aj⟩ be [(a,0),(d,0),(e,0)] (Mu s r_ u l p m q) [] w'∧Ae.le h be)→W [(a,0),(d,0),(e,0)] (Mu s r_ u l p m q) [11,2,12,10,9,8,7,6,5,4,3,1,0] a' w') ?_ (fun d9=>?_)
 ·
  intro e
  rintro _ j3 ⟨b6,be,rfl,f6,g2,cn⟩
  replace az:=az.mono cn
  replace av:=av.mono cn
  replace am:=am.mono cn
  refine D8 13 rfl (by kernel_rfl) (by decide) (rfl) (by kernel_rfl) fun K hK=>?_
  refine G2 2 0 (.agg (I2 x9 r_)) (I2 x9 r_) f6 g2 fun ee gg (d7:Ah ⟨w,h,Aj⟩ be [(a,0),(d,0),(e,0)] [⟨Bf s r_ u l p m q,some 28⟩,⟨BA,some 43⟩,⟨I2 x9 r_,some 43⟩] [] ee)=>hK _ _ ?_
  refine Ao [] [(a,0),(d,0),(e,0)] [⟨Bf s r_ u l p m q,some 28⟩,⟨BA,some 43⟩,⟨I2 x9 r_,some 43⟩] ?_
  have gl:Kn 89 [(a,0),(d,0),(e,0)] BD b6:=gg.kp
  refine Ay (by kernel_rfl) (XT (XT (Aa (Rk 0 1 ((tI 4 0)::BD) gl d7 fun ju gm=>?_))))
  refine wf ?_
  have g3:Ah ⟨w,h,Aj⟩ be [(a,0),(d,0),(e,0)] [⟨Bf s r_ u l p m q,some 28⟩,⟨BA,some 43⟩,⟨I2 x9 r_,some 43⟩] [⟨none,0,0,39,2,[],0⟩] ee:=d7.nilRow 39 2
  have ez:Ag be ([]:List Rg) []:=Ag.nil
  obtain⟨f,dl,H⟩:=Aq H
  refine Av (fun a' w'=>∃ (g:Option Addr)(k:Nat)(aa:List Value)(dh:Array Value)(bf:Ae),a' = ⟨dh,[]⟩∧Kn 89 [(a,0),(d,0),(e,0)] BD dh∧Ah ⟨w,h,Aj⟩ bf [(a,0),(d,0),(e,0)] [⟨Bf s r_ u l p m q,some 28⟩,⟨BA,some 43⟩,⟨[.slice g f.length k,.int .i64 x9.lo,.int .i64 x9.hi,.slice none 0 0,.slice none 0 0,.int .i64 r_.unit,.int .i64 r_.gap,.int .i64 r_.fr,.int .i64 r_.to_],some 43⟩] [⟨g,f.length,k,39,2,aa,0⟩] w'∧Ae.le be bf∧Ag bf f aa) ?_ ?_
  ·
   refine wp_block ?_
   refine Ar (fun h0 a' w'=>∃ (x_v10:List Rg)(x_v11:Int)(ai:Option Addr)(aj:Nat)(a6:List Value)(di:Array Value)(bn:Ae),a' = ⟨di,[]⟩∧Kn 89 [(a,0),(d,0),(e,0)] ((tI 4 x_v11)::BD) di∧Ah ⟨w,h,Aj⟩ bn [(a,0),(d,0),(e,0)] [⟨Bf s r_ u l p m q,some 28⟩,⟨BA,some 43⟩,⟨Oj ai x_v10 aj x9 r_,some 43⟩] [⟨ai,x_v10.length,aj,39,2,a6,0⟩] w'∧Ae.le be bn∧Ag bn x_v10 a6∧DQ h0 r_ x_v10 x_v11=some f) n ?_ ?_
   ·
    exact XY ([]:List Rg) ⟨0,none,0,[],_,_,rfl,gm.kp,g3,Ae.le_refl _,ez,dl⟩
   ·
    rintro b5 _ i6 ⟨x_v10,x_v11,ai,aj,a6,di,bn,rfl,gn,bl,bv,bz,ap⟩
    clear dl
    obtain _ | b5:=b5
    ·
     rw [DQ] at ap; cases ap
    rw [DQ] at ap
    replace az:=az.mono bv
    replace av:=av.mono bv
    replace am:=am.mono bv
    refine XT (XT (Aa (Rk 0 5 ((tB 23 (decide (x_v11<((r_.legs.length:Nat):Int))))::(tI 4 x_v11)::BD) gn bl fun jv cj=>?_)))
    refine wf (wC (decide (x_v11<((r_.legs.length:Nat):Int))) cj (fun cb=>?_) (fun cb=>?_))
    ·
     rw [cb,XW] at ap
     refine wp_skip (XT (wp_block (An (by kernel_rfl) ?_)))
     replace bl:=bl.drew
     refine Ao [] [(a,0),(d,0),(e,0)] [⟨Bf s r_ u l p m q,some 28⟩,⟨BA,some 43⟩,⟨Oj ai x_v10 aj x9 r_,some 43⟩] ?_
     refine Dr [0,1,2,3,4] (dn 4) ((tI 30 x_v11)::(tS 29 s r_.legs.length u)::(tS 27 ai x_v10.length aj)::(tI 4 x_v11)::BD) cj bl fun jw go=>?_
     obtain⟨x31,ex31,ap⟩:=Aq ap
     obtain⟨g8,hd,hx⟩:=Ai ex31
     obtain⟨ay,a1,jc,eo,hs,e0⟩:=az.get (by decide) hx
     obtain⟨_,_,rfl,rfl,rfl⟩:=hs
     have c5:Ah ⟨w,h,Aj⟩ bn (LJ a d e ay a1 x_v11) [⟨Bf s r_ u l p m q,some 28⟩,⟨BA,some 43⟩,⟨Oj ai x_v10 aj x9 r_,some 43⟩,⟨JF x31,none⟩] [⟨ai,x_v10.length,aj,39,2,a6,0⟩] (World.drew i6):=bl.addPlc (cs:=(JF x31)) (fun j c hj=>e0 j _ (Al hj)) rfl (by kernel_rfl) (by kernel_rfl)
     refine Ax 5 (x_v11) (JF x31) (fun _ _ _ _ _ h=>h) rfl rfl (rfl) rfl (by decide) (by kernel_rfl) (by kernel_rfl) go bl.plOk (by rfl) (by rfl) (by rfl) eo (by rfl) g8 hd (by kernel_rfl) fun io (gp:Kn 89 (LJ a d e ay a1 x_v11) ((tP 31 3 0)::(tI 30 x_v11)::(tS 29 s r_.legs.length u)::(tS 27 ai x_v10.length aj)::(tI 4 x_v11)::BD) io)=>?_
     refine Dr [6] (dn 6) ((tA 32 (JF x31))::(tS 27 ai x_v10.length aj)::(tI 4 x_v11)::BD) gp c5 fun jx gq=>?_
     obtain⟨x33,ex33,ap⟩:=Aq ap
     refine Dl 7 fun K hK=>?_
     refine wc [.agg (JF x31)] gq c5 (Kl b5 c5.has x31 ((Ab Ac Ac):rep bn x31 _) ex33) fun j1 bo j7 ei dx d8=>?_
     replace bz:=bz.mono dx
     obtain⟨_,rfl,⟨_,_,rfl,rfl,rfl⟩⟩:=ei
     refine⟨.one (.agg [.int .i64 x33.lo,.int .i64 x33.hi]),rfl,fun ip (gr:Kn 89 (LJ a d e ay a1 x_v11) ((tA 33 [.int .i64 x33.lo,.int .i64 x33.hi])::(tA 32 (JF x31))::(tS 27 ai x_v10.length aj)::(tI 4 x_v11)::BD) ip)=>hK _ _ d8.plOk ?_⟩
     refine Dl 8 fun K hK=>?_
     refine wS 39 2 [.int .i64 x33.lo,.int .i64 x33.hi] gr d8 fun bs iq i7 (gs:Kn 89 (LJ a d e ay a1 x_v11) ((tS 34 bs 1 1)::(tA 33 [.int .i64 x33.lo,.int .i64 x33.hi])::(tA 32 (JF x31))::(tS 27 ai x_v10.length aj)::(tI 4 x_v11)::BD) iq) (c6:Ah ⟨w,h,Aj⟩ bo (LJ a d e ay a1 x_v11) [⟨Bf s r_ u l p m q,some 28⟩,⟨BA,some 43⟩,⟨Oj ai x_v10 aj x9 r_,some 43⟩,⟨JF x31,none⟩] [⟨ai,x_v10.length,aj,39,2,a6,0⟩,⟨bs,1,1,39,2,([.int .i64 x33.lo,.int .i64 x33.hi]:List Value),0⟩] i7)=>?_
     have cg:Ag bo ([x33]:List Rg) ([.int .i64 x33.lo,.int .i64 x33.hi]:List Value):=⟨_,_,rfl,((Ab Ac Ac):rep bo (x33:Rg) _),rfl⟩
     refine hK _ _ c6.plOk ?_
     obtain⟨x35,ex35,ap⟩:=Aq ap
     obtain⟨db,gw⟩:=A8 ex35
     refine Dl 9 fun K hK=>?_
     refine A3 0 16 1 _ (x35.length) _ ([.int .i64 x33.lo,.int .i64 x33.hi]:List Value) gs c6 rfl rfl (by decide) rfl (by rfl) (by kernel_rfl) (by rfl) (by rfl) (Ag.len cg) (c6.rowCell (i:=1) rfl) cg.one (by rw [db]; simp) (by rw [db]; exact gw) (by decide) fun a9 ba dm h1 ir e1 (e4:Kn 89 (LJ a d e ay a1 x_v11) ((tS 35 a9 x35.length ba)::(tS 34 bs 1 1)::(tA 33 [.int .i64 x33.lo,.int .i64 x33.hi])::(tA 32 (JF x31))::(tS 27 ai x_v10.length aj)::(tI 4 x_v11)::BD) h1) (cq:Ah ⟨w,h,Aj⟩ bo (LJ a d e ay a1 x_v11) [⟨Bf s r_ u l p m q,some 28⟩,⟨BA,some 43⟩,⟨Oj ai x_v10 aj x9 r_,some 43⟩,⟨JF x31,none⟩] [⟨a9,x35.length,ba,39,2,a6++([.int .i64 x33.lo,.int .i64 x33.hi]:List Value),dm⟩,⟨bs,1,1,39,2,([.int .i64 x33.lo,.int .i64 x33.hi]:List Value),0⟩] ir)=>?_
     have ep:Ag bo x35 (a6++([.int .i64 x33.lo,.int .i64 x33.hi]:List Value)):=by rw [db]; exact Ag.append bz cg
     obtain rfl:dm=0:=Nat.le_zero.1 e1
     refine hK _ _ cq.plOk ?_
     refine Dr [10] (dn 10) ((tP 36 2 0)::(tS 35 a9 x35.length ba)::(tI 4 x_v11)::BD) e4 cq fun h2 e5=>?_
     refine D8 11 rfl (by kernel_rfl) (by decide) (rfl) (by kernel_rfl) fun K hK=>?_
     refine G2 2 0 (.c (.slice a9 x35.length ba)) [.slice a9 x35.length ba,.int .i64 x9.lo,.int .i64 x9.hi,.slice none 0 0,.slice none 0 0,.int .i64 r_.unit,.int .i64 r_.gap,.int .i64 r_.fr,.int .i64 r_.to_] e5 cq fun iu e6 (dy:Ah ⟨w,h,Aj⟩ bo (LJ a d e ay a1 x_v11) [⟨Bf s r_ u l p m q,some 28⟩,⟨BA,some 43⟩,⟨[.slice a9 x35.length ba,.int .i64 x9.lo,.int .i64 x9.hi,.slice none 0 0,.slice none 0 0,.int .i64 r_.unit,.int .i64 r_.gap,.int .i64 r_.fr,.int .i64 r_.to_],some 43⟩,⟨JF x31,none⟩] [⟨a9,x35.length,ba,39,2,a6++([.int .i64 x33.lo,.int .i64 x33.hi]:List Value),0⟩,⟨bs,1,1,39,2,([.int .i64 x33.lo,.int .i64 x33.hi]:List Value),0⟩] iu)=>hK _ _ ?_
     have e7:Kn 89 (LJ a d e ay a1 x_v11) ((tI 4 x_v11)::BD) h2:=e6.kp
     refine GB (by kernel_rfl) (Aa (Rk 0 3 ((tI 4 (IntKind.i64.wrap (x_v11+1)))::BD) e7 dy fun je e8=>?_))
     refine wf ?_
     exact XY b5 ⟨Nat.lt_succ_self _,XY x35 ⟨IntKind.i64.wrap (x_v11+1),a9,ba,a6++([.int .i64 x33.lo,.int .i64 x33.hi]:List Value),_,_,rfl,(e8.keep [4,3,2,1] (by rfl)).cut 3 (by kernel_rfl),(dy.cutRw 1).cutPl 3 (by kernel_rfl),XU bv dx,ep,ap⟩⟩
    ·
     rw [cb,XV] at ap
     refine wp_exit ?_
     obtain rfl:=XZ ap
     exact XY ai ⟨aj,a6,_,_,rfl,cj.kp,bl,bv,bz⟩
  ·
   rintro _ iv ⟨g,k,aa,dh,bf,rfl,e9,dz,ck,bi⟩
   replace az:=az.mono ck
   replace av:=av.mono ck
   replace am:=am.mono ck
   refine XT (XT (Aa (Rk 0 1 ((tI 5 0)::BD) e9 dz fun jf fa=>?_)))
   refine wf ?_
   have gz:Ah ⟨w,h,Aj⟩ bf [(a,0),(d,0),(e,0)] [⟨Bf s r_ u l p m q,some 28⟩,⟨BA,some 43⟩,⟨[.slice g f.length k,.int .i64 x9.lo,.int .i64 x9.hi,.slice none 0 0,.slice none 0 0,.int .i64 r_.unit,.int .i64 r_.gap,.int .i64 r_.fr,.int .i64 r_.to_],some 43⟩] [⟨g,f.length,k,39,2,aa,0⟩,⟨none,0,0,96,3,[],0⟩] iv:=dz.nilRow 96 3
   have er:Ag bf ([]:List Cy) []:=Ag.nil
   obtain⟨x,dj,H⟩:=Aq H
   refine Av (fun a' w'=>∃ (y:Option Addr)(z:Nat)(ak:List Value)(dd:Array Value)(bd:Ae),a' = ⟨dd,[]⟩∧Kn 89 [(a,0),(d,0),(e,0)] BD dd∧Ah ⟨w,h,Aj⟩ bd [(a,0),(d,0),(e,0)] [⟨Bf s r_ u l p m q,some 28⟩,⟨BA,some 43⟩,⟨[.slice g f.length k,.int .i64 x9.lo,.int .i64 x9.hi,.slice y x.length z,.slice none 0 0,.int .i64 r_.unit,.int .i64 r_.gap,.int .i64 r_.fr,.int .i64 r_.to_],some 43⟩] [⟨g,f.length,k,39,2,aa,0⟩,⟨y,x.length,z,96,3,ak,0⟩] w'∧Ae.le bf bd∧Ag bd x ak) ?_ ?_
   ·
    refine wp_block ?_
    refine Ar (fun hy a' w'=>∃ (x_v20:List Cy)(x_v21:Int)(ab:Option Addr)(ac:Nat)(a2:List Value)(de:Array Value)(bh:Ae),a' = ⟨de,[]⟩∧Kn 89 [(a,0),(d,0),(e,0)] ((tI 5 x_v21)::BD) de∧Ah ⟨w,h,Aj⟩ bh [(a,0),(d,0),(e,0)] [⟨Bf s r_ u l p m q,some 28⟩,⟨BA,some 43⟩,⟨Ms g f k x9 ab x_v20 ac r_,some 43⟩] [⟨g,f.length,k,39,2,aa,0⟩,⟨ab,x_v20.length,ac,96,3,a2,0⟩] w'∧Ae.le bf bh∧Ag bh x_v20 a2∧DR hy r_ x_v20 x_v21=some x) n ?_ ?_
    ·
     exact XY ([]:List Cy) ⟨0,none,0,[],_,_,rfl,fa.kp,gz,Ae.le_refl _,er,dj⟩
    ·
     rintro b4 _ eb ⟨x_v20,x_v21,ab,ac,a2,de,bh,rfl,fc,bj,bp,bx,al⟩
     clear dj
     obtain _ | b4:=b4
     ·
      rw [DR] at al; cases al
     rw [DR] at al
     replace az:=az.mono bp
     replace av:=av.mono bp
     replace am:=am.mono bp
     replace bi:=bi.mono bp
     refine XT (XT (Aa (Rk 0 5 ((tB 41 (decide (x_v21<((r_.buses.length:Nat):Int))))::(tI 5 x_v21)::BD) fc bj fun jg ch=>?_)))
     refine wf (wC (decide (x_v21<((r_.buses.length:Nat):Int))) ch (fun b9=>?_) (fun b9=>?_))
     ·
      rw [b9,XW] at al
      refine wp_skip (XT (wp_block (An (by kernel_rfl) ?_)))
      replace bj:=bj.drew
      refine Ao [] [(a,0),(d,0),(e,0)] [⟨Bf s r_ u l p m q,some 28⟩,⟨BA,some 43⟩,⟨Ms g f k x9 ab x_v20 ac r_,some 43⟩] ?_
      refine Dr [0,1,2,3,4] (dn 4) ((tI 48 x_v21)::(tS 47 l r_.buses.length p)::(I3 ab x_v20 ac x_v21)) ch bj fun jh fd=>?_
      obtain⟨x49,ex49,al⟩:=Aq al
      obtain⟨g4,g9,ht⟩:=Ai ex49
      obtain⟨an,aq,i8,ek,hn,es⟩:=av.get (by decide) ht
      obtain⟨_,_,rfl,rfl,⟨_,_,rfl,rfl,rfl⟩⟩:=hn
      have cr:Ah ⟨w,h,Aj⟩ bh [(a,0),(d,0),(e,0),(an,aq+(x_v21:Int).toNat*3)] [⟨Bf s r_ u l p m q,some 28⟩,⟨BA,some 43⟩,⟨Ms g f k x9 ab x_v20 ac r_,some 43⟩,⟨Oi x49,none⟩] [⟨g,f.length,k,39,2,aa,0⟩,⟨ab,x_v20.length,ac,96,3,a2,0⟩] (World.drew eb):=bj.addPlc (cs:=(Oi x49)) (fun j c hj=>es j _ (Al hj)) rfl (by kernel_rfl) (by kernel_rfl)
      refine Ax 5 (x_v21) (Oi x49) (fun _ _ _ _ _ h=>h) rfl rfl (rfl) rfl (by decide) (by kernel_rfl) (by kernel_rfl) fd bj.plOk (by rfl) (by rfl) (by rfl) ek (by rfl) g4 g9 (by kernel_rfl) fun h4 (fe:Kn 89 [(a,0),(d,0),(e,0),(an,aq+(x_v21:Int).toNat*3)] ((tP 49 3 0)::(tI 48 x_v21)::(tS 47 l r_.buses.length p)::(I3 ab x_v20 ac x_v21)) h4)=>?_
      refine Dr [6,7,8,9,10] (dn 10) ((tI 54 x_v21)::(tS 53 l r_.buses.length p)::(tI 51 x49.stop)::(I3 ab x_v20 ac x_v21)) fe cr fun ji ff=>?_
      obtain⟨x55,ex55,al⟩:=Aq al
      obtain⟨g5,ha,hu⟩:=Ai ex55
      obtain⟨ax,a0,i9,el,ho,et⟩:=av.get (by decide) hu
      obtain⟨_,_,rfl,rfl,⟨_,_,rfl,rfl,rfl⟩⟩:=ho
      have ct:Ah ⟨w,h,Aj⟩ bh (LK a d e an aq x_v21 ax a0) [⟨Bf s r_ u l p m q,some 28⟩,⟨BA,some 43⟩,⟨Ms g f k x9 ab x_v20 ac r_,some 43⟩,⟨Oi x49,none⟩,⟨P4 x55,none⟩] [⟨g,f.length,k,39,2,aa,0⟩,⟨ab,x_v20.length,ac,96,3,a2,0⟩] (World.drew eb):=cr.addPlc (cs:=(P4 x55)) (fun j c hj=>et j _ (Al hj)) rfl (by kernel_rfl) (by kernel_rfl)
      refine Ax 11 (x_v21) (P4 x55) (fun _ _ _ _ _ h=>h) rfl rfl (rfl) rfl (by decide) (by kernel_rfl) (by kernel_rfl) ff cr.plOk (by rfl) (by rfl) (by rfl) el (by rfl) g5 ha (by kernel_rfl) fun h5 (fg:Kn 89 (LK a d e an aq x_v21 ax a0) ((tP 55 4 0)::(tI 54 x_v21)::(tS 53 l r_.buses.length p)::(tI 51 x49.stop)::(I3 ab x_v20 ac x_v21)) h5)=>?_
      refine Dr [12,13] (dn 13) ((tA 57 [.int .i64 x55.tm.lo,.int .i64 x55.tm.hi])::(tI 51 x49.stop)::(I3 ab x_v20 ac x_v21)) fg ct fun jj fh=>?_
      obtain⟨x58,ex58,al⟩:=Aq al
      refine Dl 14 fun K hK=>?_
      refine wc [.agg [.int .i64 x55.tm.lo,.int .i64 x55.tm.hi]] fh ct (Kl b4 ct.has x55.tm ((Ab Ac Ac):rep bh x55.tm _) ex58) fun jy bm j2 ef dv cu=>?_
      replace bx:=bx.mono dv
      obtain⟨_,rfl,⟨_,_,rfl,rfl,rfl⟩⟩:=ef
      refine⟨.one (.agg [.int .i64 x58.lo,.int .i64 x58.hi]),rfl,fun h6 (fj:Kn 89 (LK a d e an aq x_v21 ax a0) ((tA 58 [.int .i64 x58.lo,.int .i64 x58.hi])::(tA 57 [.int .i64 x55.tm.lo,.int .i64 x55.tm.hi])::(tI 51 x49.stop)::(I3 ab x_v20 ac x_v21)) h6)=>hK _ _ cu.plOk ?_⟩
      refine Dr [15] (dn 15) ((tA 59 [.int .i64 x49.stop,.int .i64 x58.lo,.int .i64 x58.hi])::(I3 ab x_v20 ac x_v21)) fj cu fun jk fk=>?_
      refine Dl 16 fun K hK=>?_
      refine wS 96 3 [.int .i64 x49.stop,.int .i64 x58.lo,.int .i64 x58.hi] fk cu fun bq h7 ix (fl:Kn 89 (LK a d e an aq x_v21 ax a0) ((tS 60 bq 1 1)::(tA 59 [.int .i64 x49.stop,.int .i64 x58.lo,.int .i64 x58.hi])::(I3 ab x_v20 ac x_v21)) h7) (cv:Ah ⟨w,h,Aj⟩ bm (LK a d e an aq x_v21 ax a0) [⟨Bf s r_ u l p m q,some 28⟩,⟨BA,some 43⟩,⟨Ms g f k x9 ab x_v20 ac r_,some 43⟩,⟨Oi x49,none⟩,⟨P4 x55,none⟩] [⟨g,f.length,k,39,2,aa,0⟩,⟨ab,x_v20.length,ac,96,3,a2,0⟩,⟨bq,1,1,96,3,([.int .i64 x49.stop,.int .i64 x58.lo,.int .i64 x58.hi]:List Value),0⟩] ix)=>?_
      have cd:Ag bm ([Cy.mk x49.stop x58]:List Cy) ([.int .i64 x49.stop,.int .i64 x58.lo,.int .i64 x58.hi]:List Value):=⟨_,_,rfl,((Ab Ac (Ab Ac Ac)):rep bm ((Cy.mk x49.stop x58):Cy) _),rfl⟩
      refine hK _ _ cv.plOk ?_
      obtain⟨x61,ex61,al⟩:=Aq al
      obtain⟨c9,gu⟩:=A8 ex61
      refine Dl 17 fun K hK=>?_
      refine A3 1 24 1 _ (x61.length) _ ([.int .i64 x49.stop,.int .i64 x58.lo,.int .i64 x58.hi]:List Value) fl cv rfl rfl (by decide) rfl (by rfl) (by kernel_rfl) (by rfl) (by rfl) (Ag.len cd) (cv.rowCell (i:=2) rfl) cd.one (by rw [c9]; simp) (by rw [c9]; exact gu) (by decide) fun a7 bb dp h8 iy e2 (fn:Kn 89 (LK a d e an aq x_v21 ax a0) ((tS 61 a7 x61.length bb)::(tS 60 bq 1 1)::(tA 59 [.int .i64 x49.stop,.int .i64 x58.lo,.int .i64 x58.hi])::(I3 ab x_v20 ac x_v21)) h8) (cw:Ah ⟨w,h,Aj⟩ bm (LK a d e an aq x_v21 ax a0) [⟨Bf s r_ u l p m q,some 28⟩,⟨BA,some 43⟩,⟨Ms g f k x9 ab x_v20 ac r_,some 43⟩,⟨Oi x49,none⟩,⟨P4 x55,none⟩] [⟨g,f.length,k,39,2,aa,0⟩,⟨a7,x61.length,bb,96,3,a2++([.int .i64 x49.stop,.int .i64 x58.lo,.int .i64 x58.hi]:List Value),dp⟩,⟨bq,1,1,96,3,([.int .i64 x49.stop,.int .i64 x58.lo,.int .i64 x58.hi]:List Value),0⟩] iy)=>?_
      have eu:Ag bm x61 (a2++([.int .i64 x49.stop,.int .i64 x58.lo,.int .i64 x58.hi]:List Value)):=by rw [c9]; exact Ag.append bx cd
      obtain rfl:dp=0:=Nat.le_zero.1 e2
      refine hK _ _ cw.plOk ?_
      refine Dr [18] (dn 18) ((tP 62 2 3)::(tS 61 a7 x61.length bb)::(tI 5 x_v21)::BD) fn cw fun h9 fo=>?_
      refine D8 19 rfl (by kernel_rfl) (by decide) (rfl) (by kernel_rfl) fun K hK=>?_
      refine G2 2 3 (.c (.slice a7 x61.length bb)) [.slice g f.length k,.int .i64 x9.lo,.int .i64 x9.hi,.slice a7 x61.length bb,.slice none 0 0,.int .i64 r_.unit,.int .i64 r_.gap,.int .i64 r_.fr,.int .i64 r_.to_] fo cw fun iz fp (d0:Ah ⟨w,h,Aj⟩ bm (LK a d e an aq x_v21 ax a0) [⟨Bf s r_ u l p m q,some 28⟩,⟨BA,some 43⟩,⟨[.slice g f.length k,.int .i64 x9.lo,.int .i64 x9.hi,.slice a7 x61.length bb,.slice none 0 0,.int .i64 r_.unit,.int .i64 r_.gap,.int .i64 r_.fr,.int .i64 r_.to_],some 43⟩,⟨Oi x49,none⟩,⟨P4 x55,none⟩] [⟨g,f.length,k,39,2,aa,0⟩,⟨a7,x61.length,bb,96,3,a2++([.int .i64 x49.stop,.int .i64 x58.lo,.int .i64 x58.hi]:List Value),0⟩,⟨bq,1,1,96,3,([.int .i64 x49.stop,.int .i64 x58.lo,.int .i64 x58.hi]:List Value),0⟩] iz)=>hK _ _ ?_
      have fq:Kn 89 (LK a d e an aq x_v21 ax a0) ((tI 5 x_v21)::BD) h9:=fp.kp
      refine GB (by kernel_rfl) (Aa (Rk 0 3 ((tI 5 (IntKind.i64.wrap (x_v21+1)))::BD) fq d0 fun jl fs=>?_))
      refine wf ?_
      exact XY b4 ⟨Nat.lt_succ_self _,XY x61 ⟨IntKind.i64.wrap (x_v21+1),a7,bb,a2++([.int .i64 x49.stop,.int .i64 x58.lo,.int .i64 x58.hi]:List Value),_,_,rfl,(fs.keep [5,3,2,1] (by rfl)).cut 3 (by kernel_rfl),(d0.cutRw 2).cutPl 3 (by kernel_rfl),XU bp dv,eu,al⟩⟩
     ·
      rw [b9,XV] at al
      refine wp_exit ?_
      obtain rfl:=XZ al
      exact XY ab ⟨ac,a2,_,_,rfl,ch.kp,bj,bp,bx⟩
   ·
    rintro _ i0 ⟨y,z,ak,dd,bd,rfl,ft,d1,b0,cc⟩
    replace az:=az.mono b0
    replace av:=av.mono b0
    replace am:=am.mono b0
    replace bi:=bi.mono b0
    refine XT (XT (Aa (Rk 0 1 ((tI 6 0)::BD) ft d1 fun jm fv=>?_)))
    refine wf ?_
    have g1:Ah ⟨w,h,Aj⟩ bd [(a,0),(d,0),(e,0)] [⟨Bf s r_ u l p m q,some 28⟩,⟨BA,some 43⟩,⟨[.slice g f.length k,.int .i64 x9.lo,.int .i64 x9.hi,.slice y x.length z,.slice none 0 0,.int .i64 r_.unit,.int .i64 r_.gap,.int .i64 r_.fr,.int .i64 r_.to_],some 43⟩] [⟨g,f.length,k,39,2,aa,0⟩,⟨y,x.length,z,96,3,ak,0⟩,⟨none,0,0,110,2,[],0⟩] i0:=d1.nilRow 110 2
    have ev:Ag bd ([]:List A7) []:=Ag.nil
    obtain⟨ad,dk,H⟩:=Aq H
    refine Av (fun a' w'=>∃ (ae:Option Addr)(af:Nat)(bg:List Value)(df:Array Value)(bu:Ae),a' = ⟨df,[]⟩∧Kn 89 [(a,0),(d,0),(e,0)] [tP 3 2 0,tP 2 1 0] df∧Ah ⟨w,h,Aj⟩ bu [(a,0),(d,0),(e,0)] [⟨Bf s r_ u l p m q,some 28⟩,⟨BA,some 43⟩,⟨FT g f k x9 y x z ae ad af r_,some 43⟩] [⟨g,f.length,k,39,2,aa,0⟩,⟨y,x.length,z,96,3,ak,0⟩,⟨ae,ad.length,af,110,2,bg,0⟩] w'∧Ae.le bd bu∧Ag bu ad bg) ?_ ?_
    ·
     refine wp_block ?_
     refine Ar (fun hz a' w'=>∃ (x_v30:List A7)(x_v31:Int)(ag:Option Addr)(ah:Nat)(a3:List Value)(dg:Array Value)(au:Ae),a' = ⟨dg,[]⟩∧Kn 89 [(a,0),(d,0),(e,0)] ((tI 6 x_v31)::BD) dg∧Ah ⟨w,h,Aj⟩ au [(a,0),(d,0),(e,0)] [⟨Bf s r_ u l p m q,some 28⟩,⟨BA,some 43⟩,⟨Mt g f k x9 y x z ag x_v30 ah r_,some 43⟩] [⟨g,f.length,k,39,2,aa,0⟩,⟨y,x.length,z,96,3,ak,0⟩,⟨ag,x_v30.length,ah,110,2,a3,0⟩] w'∧Ae.le bd au∧Ag au x_v30 a3∧DS hz r_ x_v30 x_v31=some ad) n ?_ ?_
     ·
      exact XY ([]:List A7) ⟨0,none,0,[],_,_,rfl,fv.kp,g1,Ae.le_refl _,ev,dk⟩
     ·
      rintro dc _ ed ⟨x_v30,x_v31,ag,ah,a3,dg,au,rfl,fw,bk,cl,dt,ao⟩
      clear dk
      obtain _ | dc:=dc
      ·
       rw [DS] at ao; cases ao
      rw [DS] at ao
      replace am:=am.mono cl
      refine XT (XT (Aa (Rk 0 5 ((tB 67 (decide (x_v31<((r_.spares.length:Nat):Int))))::(tI 6 x_v31)::BD) fw bk fun jn ci=>?_)))
      refine wf (wC (decide (x_v31<((r_.spares.length:Nat):Int))) ci (fun ca=>?_) (fun ca=>?_))
      ·
       rw [ca,XW] at ao
       refine wp_skip (XT (wp_block (An (by kernel_rfl) ?_)))
       replace bk:=bk.drew
       refine Ao [] [(a,0),(d,0),(e,0)] [⟨Bf s r_ u l p m q,some 28⟩,⟨BA,some 43⟩,⟨Mt g f k x9 y x z ag x_v30 ah r_,some 43⟩] ?_
       refine Dr [0,1,2,3,4] (dn 4) ((tI 74 x_v31)::(tS 73 m r_.spares.length q)::(tS 71 ag x_v30.length ah)::(tI 6 x_v31)::BD) ci bk fun jo fx=>?_
       obtain⟨x75,ex75,ao⟩:=Aq ao
       obtain⟨g6,hb,hv⟩:=Ai ex75
       obtain⟨ar,aw,ja,em,hq,ew⟩:=am.get (by decide) hv
       obtain⟨_,_,rfl,rfl,rfl⟩:=hq
       have cy:Ah ⟨w,h,Aj⟩ au [(a,0),(d,0),(e,0),(ar,aw+(x_v31:Int).toNat*2)] [⟨Bf s r_ u l p m q,some 28⟩,⟨BA,some 43⟩,⟨Mt g f k x9 y x z ag x_v30 ah r_,some 43⟩,⟨Oh x75,none⟩] [⟨g,f.length,k,39,2,aa,0⟩,⟨y,x.length,z,96,3,ak,0⟩,⟨ag,x_v30.length,ah,110,2,a3,0⟩] (World.drew ed):=bk.addPlc (cs:=(Oh x75)) (fun j c hj=>ew j _ (Al hj)) rfl (by kernel_rfl) (by kernel_rfl)
       refine Ax 5 (x_v31) (Oh x75) (fun _ _ _ _ _ h=>h) rfl rfl (rfl) rfl (by decide) (by kernel_rfl) (by kernel_rfl) fx bk.plOk (by rfl) (by rfl) (by rfl) em (by rfl) g6 hb (by kernel_rfl) fun ib (fy:Kn 89 [(a,0),(d,0),(e,0),(ar,aw+(x_v31:Int).toNat*2)] ((tP 75 3 0)::(tI 74 x_v31)::(tS 73 m r_.spares.length q)::(tS 71 ag x_v30.length ah)::(tI 6 x_v31)::BD) ib)=>?_
       refine Dr [6,7,8,9,10] (dn 10) ((tI 80 x_v31)::(tS 79 m r_.spares.length q)::(tI 77 x75.stop)::(tS 71 ag x_v30.length ah)::(tI 6 x_v31)::BD) fy cy fun jp fz=>?_
       obtain⟨x81,ex81,ao⟩:=Aq ao
       obtain⟨g7,hc,hw⟩:=Ai ex81
       obtain⟨a4,a5,jb,en,hr,ex⟩:=am.get (by decide) hw
       obtain⟨_,_,rfl,rfl,rfl⟩:=hr
       have d2:Ah ⟨w,h,Aj⟩ au (Na a d e ar aw x_v31 a4 a5) [⟨Bf s r_ u l p m q,some 28⟩,⟨BA,some 43⟩,⟨Mt g f k x9 y x z ag x_v30 ah r_,some 43⟩,⟨Oh x75,none⟩,⟨P3 x81,none⟩] [⟨g,f.length,k,39,2,aa,0⟩,⟨y,x.length,z,96,3,ak,0⟩,⟨ag,x_v30.length,ah,110,2,a3,0⟩] (World.drew ed):=cy.addPlc (cs:=(P3 x81)) (fun j c hj=>ex j _ (Al hj)) rfl (by kernel_rfl) (by kernel_rfl)
       refine Ax 11 (x_v31) (P3 x81) (fun _ _ _ _ _ h=>h) rfl rfl (rfl) rfl (by decide) (by kernel_rfl) (by kernel_rfl) fz cy.plOk (by rfl) (by rfl) (by rfl) en (by rfl) g7 hc (by kernel_rfl) fun ic (f0:Kn 89 (Na a d e ar aw x_v31 a4 a5) ((tP 81 4 0)::(tI 80 x_v31)::(tS 79 m r_.spares.length q)::(tI 77 x75.stop)::(tS 71 ag x_v30.length ah)::(tI 6 x_v31)::BD) ic)=>?_
       refine Dr [12,13,14] (dn 14) ((tA 84 [.int .i64 x75.stop,.int .i64 x81.tm])::(tS 71 ag x_v30.length ah)::(tI 6 x_v31)::BD) f0 d2 fun jq f1=>?_
       refine Dl 15 fun K hK=>?_
       refine wS 110 2 [.int .i64 x75.stop,.int .i64 x81.tm] f1 d2 fun br ie i1 (f2:Kn 89 (Na a d e ar aw x_v31 a4 a5) ((tS 85 br 1 1)::(tA 84 [.int .i64 x75.stop,.int .i64 x81.tm])::(tS 71 ag x_v30.length ah)::(tI 6 x_v31)::BD) ie) (cz:Ah ⟨w,h,Aj⟩ au (Na a d e ar aw x_v31 a4 a5) [⟨Bf s r_ u l p m q,some 28⟩,⟨BA,some 43⟩,⟨Mt g f k x9 y x z ag x_v30 ah r_,some 43⟩,⟨Oh x75,none⟩,⟨P3 x81,none⟩] [⟨g,f.length,k,39,2,aa,0⟩,⟨y,x.length,z,96,3,ak,0⟩,⟨ag,x_v30.length,ah,110,2,a3,0⟩,⟨br,1,1,110,2,([.int .i64 x75.stop,.int .i64 x81.tm]:List Value),0⟩] i1)=>?_
       have cf:Ag au ([A7.mk x75.stop x81.tm]:List A7) ([.int .i64 x75.stop,.int .i64 x81.tm]:List Value):=⟨_,_,rfl,((Ab Ac Ac):rep au ((A7.mk x75.stop x81.tm):A7) _),rfl⟩
       refine hK _ _ cz.plOk ?_
       obtain⟨x86,ex86,ao⟩:=Aq ao
       obtain⟨da,gv⟩:=A8 ex86
       refine Dl 16 fun K hK=>?_
       refine A3 2 16 1 _ (x86.length) _ ([.int .i64 x75.stop,.int .i64 x81.tm]:List Value) f2 cz rfl rfl (by decide) rfl (by rfl) (by kernel_rfl) (by rfl) (by rfl) (Ag.len cf) (cz.rowCell (i:=3) rfl) cf.one (by rw [da]; simp) (by rw [da]; exact gv) (by decide) fun a8 bc dq ig i2 e3 (f3:Kn 89 (Na a d e ar aw x_v31 a4 a5) ((tS 86 a8 x86.length bc)::(tS 85 br 1 1)::(tA 84 [.int .i64 x75.stop,.int .i64 x81.tm])::(tS 71 ag x_v30.length ah)::(tI 6 x_v31)::BD) ig) (c0:Ah ⟨w,h,Aj⟩ au (Na a d e ar aw x_v31 a4 a5) [⟨Bf s r_ u l p m q,some 28⟩,⟨BA,some 43⟩,⟨Mt g f k x9 y x z ag x_v30 ah r_,some 43⟩,⟨Oh x75,none⟩,⟨P3 x81,none⟩] [⟨g,f.length,k,39,2,aa,0⟩,⟨y,x.length,z,96,3,ak,0⟩,⟨a8,x86.length,bc,110,2,a3++([.int .i64 x75.stop,.int .i64 x81.tm]:List Value),dq⟩,⟨br,1,1,110,2,([.int .i64 x75.stop,.int .i64 x81.tm]:List Value),0⟩] i2)=>?_
       have ey:Ag au x86 (a3++([.int .i64 x75.stop,.int .i64 x81.tm]:List Value)):=by rw [da]; exact Ag.append dt cf
       obtain rfl:dq=0:=Nat.le_zero.1 e3
       refine hK _ _ c0.plOk ?_
       refine Dr [17] (dn 17) ((tP 87 2 4)::(tS 86 a8 x86.length bc)::(tI 6 x_v31)::BD) f3 c0 fun ih f4=>?_
       refine D8 18 rfl (by kernel_rfl) (by decide) (rfl) (by kernel_rfl) fun K hK=>?_
       refine G2 2 4 (.c (.slice a8 x86.length bc)) [.slice g f.length k,.int .i64 x9.lo,.int .i64 x9.hi,.slice y x.length z,.slice a8 x86.length bc,.int .i64 r_.unit,.int .i64 r_.gap,.int .i64 r_.fr,.int .i64 r_.to_] f4 c0 fun i3 f5 (d3:Ah ⟨w,h,Aj⟩ au (Na a d e ar aw x_v31 a4 a5) [⟨Bf s r_ u l p m q,some 28⟩,⟨BA,some 43⟩,⟨[.slice g f.length k,.int .i64 x9.lo,.int .i64 x9.hi,.slice y x.length z,.slice a8 x86.length bc,.int .i64 r_.unit,.int .i64 r_.gap,.int .i64 r_.fr,.int .i64 r_.to_],some 43⟩,⟨Oh x75,none⟩,⟨P3 x81,none⟩] [⟨g,f.length,k,39,2,aa,0⟩,⟨y,x.length,z,96,3,ak,0⟩,⟨a8,x86.length,bc,110,2,a3++([.int .i64 x75.stop,.int .i64 x81.tm]:List Value),0⟩,⟨br,1,1,110,2,([.int .i64 x75.stop,.int .i64 x81.tm]:List Value),0⟩] i3)=>hK _ _ ?_
       have f7:Kn 89 (Na a d e ar aw x_v31 a4 a5) ((tI 6 x_v31)::BD) ih:=f5.kp
       refine GB (by kernel_rfl) (Aa (Rk 0 3 ((tI 6 (IntKind.i64.wrap (x_v31+1)))::BD) f7 d3 fun jr f8=>?_))
       refine wf ?_
       exact XY dc ⟨Nat.lt_succ_self _,XY x86 ⟨IntKind.i64.wrap (x_v31+1),a8,bc,a3++([.int .i64 x75.stop,.int .i64 x81.tm]:List Value),_,_,rfl,(f8.keep [6,3,2,1] (by rfl)).cut 3 (by kernel_rfl),(d3.cutRw 3).cutPl 3 (by kernel_rfl),cl,ey,ao⟩⟩
      ·
       rw [ca,XV] at ao
       refine wp_exit ?_
       obtain rfl:=XZ ao
       exact XY ag ⟨ah,a3,_,_,rfl,ci.kp,bk,cl,dt⟩
    ·
     rintro _ j4 ⟨ae,af,bg,df,bu,rfl,f9,d4,dw,ce⟩
     refine XT (Aa (Rk 0 1 [tA 88 (FT g f k x9 y x z ae ad af r_),tP 2 1 0] f9 d4 fun ii ga=>?_))
     refine wl fun K hK=>?_
     refine G2 1 0 (.agg (FT g f k x9 y x z ae ad af r_)) (FT g f k x9 y x z ae ad af r_) ga d4 fun b7 gb (d5:Ah ⟨w,h,Aj⟩ bu [(a,0),(d,0),(e,0)] [⟨Bf s r_ u l p m q,some 28⟩,⟨FT g f k x9 y x z ae ad af r_,some 43⟩,⟨FT g f k x9 y x z ae ad af r_,some 43⟩] [⟨g,f.length,k,39,2,aa,0⟩,⟨y,x.length,z,96,3,ak,0⟩,⟨ae,ad.length,af,110,2,bg,0⟩] b7)=>hK _ _ ?_
     have gc:Kn 89 [(a,0),(d,0),(e,0)] [tP 2 1 0] ii:=gb.kp
     refine wf (wp_ret ?_)
     obtain⟨dr,cm,hf,b2⟩:=d5.settle (i:=0) rfl
     replace bi:=bi.mono (XU dw cm)
     replace b2:Ah ⟨w,h,Aj⟩ dr [(a,0),(d,0),(e,0)] [⟨Bf s r_ u l p m q,some 28⟩,⟨FT g f k x9 y x z ae ad af r_,some 43⟩,⟨FT g f k x9 y x z ae ad af r_,some 43⟩] [⟨g,f.length,k,39,2,aa,(aa:List Value).length⟩,⟨y,x.length,z,96,3,ak,0⟩,⟨ae,ad.length,af,110,2,bg,0⟩] b7:=b2
     have c7:A6 dr g k f:=⟨_,bi,hf,d5.rowCap (i:=0) rfl⟩
     obtain⟨ds,co,hg,b3⟩:=b2.settle (i:=1) rfl
     replace cc:=cc.mono (XU (XU dw cm) co)
     replace b3:Ah ⟨w,h,Aj⟩ ds [(a,0),(d,0),(e,0)] [⟨Bf s r_ u l p m q,some 28⟩,⟨FT g f k x9 y x z ae ad af r_,some 43⟩,⟨FT g f k x9 y x z ae ad af r_,some 43⟩] [⟨g,f.length,k,39,2,aa,(aa:List Value).length⟩,⟨y,x.length,z,96,3,ak,(ak:List Value).length⟩,⟨ae,ad.length,af,110,2,bg,0⟩] b7:=b3
     have c8:A6 ds y z x:=⟨_,cc,hg,b2.rowCap (i:=1) rfl⟩
     obtain⟨b8,cp,hl,c1⟩:=b3.settle (i:=2) rfl
     replace c7:=c7.mono (XU co cp)
     replace c8:=c8.mono cp
     replace ce:=ce.mono (XU (XU cm co) cp)
     replace c1:Ah ⟨w,h,Aj⟩ b8 [(a,0),(d,0),(e,0)] [⟨Bf s r_ u l p m q,some 28⟩,⟨FT g f k x9 y x z ae ad af r_,some 43⟩,⟨FT g f k x9 y x z ae ad af r_,some 43⟩] [⟨g,f.length,k,39,2,aa,(aa:List Value).length⟩,⟨y,x.length,z,96,3,ak,(ak:List Value).length⟩,⟨ae,ad.length,af,110,2,bg,(bg:List Value).length⟩] b7:=c1
     have he:A6 b8 ae af ad:=⟨_,ce,hl,b3.rowCap (i:=2) rfl⟩
     obtain rfl:=XZ H
     exact rt (.one (.agg (FT g f k x9 y x z ae ad af r_))) gc c1 ⟨_,rfl,((Ab (Ad c7) (Ab (Ab Ac Ac) (Ab (Ad c8) (Ab (Ad he) (Ab Ac (Ab Ac (Ab Ac Ac))))))):rep b8 ((Af.mk f x9 x ad r_.unit r_.gap r_.fr r_.to_):Af) _)⟩
 refine HT 2 12 rfl rfl (by kernel_rfl) (by decide) (rfl) (rfl) (fun K hK=>?_) (fun K hK=>?_)
 ·
  refine wc [.agg (TK r_)] du cx (Kl n cx.has r_.turn ((Ab Ac Ac):rep h r_.turn _) ex9) fun jz ej j5 eg gx c2=>?_
  obtain⟨_,rfl,⟨_,_,rfl,rfl,rfl⟩⟩:=eg
  refine⟨.one (.agg [.int .i64 x9.lo,.int .i64 x9.hi]),rfl,fun ij (gd:Kn 89 [(a,0),(d,0),(0,0)] ((tA 9 [.int .i64 x9.lo,.int .i64 x9.hi])::(Ok r_)) ij)=>hK _ _ c2.plOk ?_⟩
  refine Dr [11] [11,2,10,9,8,7,6,5,4,3,1,0] [tA 18 (I2 x9 r_),tP 2 1 0,tP 1 0 0] gd c2 fun js gf=>?_
  refine Dl 12 fun K hK=>?_
  refine Vd 2 BA gf c2 fun bw ik i4 (gh:Kn 89 [(a,0),(d,0),(bw,0)] [tP 3 2 0,tA 18 (I2 x9 r_),tP 2 1 0,tP 1 0 0] ik) (d6:Ah ⟨w,h,Aj⟩ ej [(a,0),(d,0),(bw,0)] (Mu s r_ u l p m q) [] i4)=>hK _ _ (AZ.unset 2 rfl (by kernel_rfl) d6.plOk) (NS (e':=[(a,0),(d,0),(bw,0)]) (pl':=(Mu s r_ u l p m q)) (fun _ hp=>hp.unset 2 rfl (by kernel_rfl)) ?_)
  refine Bq [11,2,12,10,9,8,7,6,5,4,3,1,0] (by kernel_rfl) (by rfl) (d9 bw _ _ ?_)
  exact XY _ ⟨_,rfl,gh.kp,d6,gx⟩
 ·
  refine Vd 2 BA du cx fun bt il i5 (gi:Kn 89 [(a,0),(d,0),(bt,0)] ((tP 3 2 0)::(Ok r_)) il) (c3:Ah ⟨w,h,Aj⟩ h [(a,0),(d,0),(bt,0)] (Mu s r_ u l p m q) [] i5)=>hK _ _ (AZ.unset 2 rfl (by kernel_rfl) c3.plOk) (NS (e':=[(a,0),(d,0),(bt,0)]) (pl':=(Mu s r_ u l p m q)) (fun _ hp=>hp.unset 2 rfl (by kernel_rfl)) ?_)
  refine Dl 2 fun K hK=>?_
  refine wc [.agg (TK r_)] gi c3 (Kl n c3.has r_.turn ((Ab Ac Ac):rep h r_.turn _) ex9) fun j0 jd j6 eh gy c4=>?_
  obtain⟨_,rfl,⟨_,_,rfl,rfl,rfl⟩⟩:=eh
  refine⟨.one (.agg [.int .i64 x9.lo,.int .i64 x9.hi]),rfl,fun im (gj:Kn 89 [(a,0),(d,0),(bt,0)] ((tA 9 [.int .i64 x9.lo,.int .i64 x9.hi])::(tP 3 2 0)::(Ok r_)) im)=>hK _ _ c4.plOk ?_⟩
  refine Dr [11] [11,2,12,10,9,8,7,6,5,4,3,1,0] ((tA 18 (I2 x9 r_))::BD) gj c4 fun jt gk=>?_
  refine Bq [11,2,12,10,9,8,7,6,5,4,3,1,0] (by kernel_rfl) (by rfl) (d9 bt _ _ ?_)
  exact XY _ ⟨_,rfl,gk.kp,c4,gy⟩
end Go.Proofs.Ytokchpjijlebiaa
