/- Each call computes its plain function. -/
import Derived.Test.YtokchpjijlebiaaProg
import Derived.Test.YtokchpjijlebiaaNQP0
import Derived.Test.YtokchpjijlebiaaNQWP
set_option linter.all false
namespace Go.Proofs.Ytokchpjijlebiaa
open Go Go.RowKit
open Rep (rep)
open KRep (kv)
open VRep (rv)
abbrev FK (c:BN):List SC:=[.int .i64 c.number,.int .i64 c.sum]
abbrev Nb (x61:Ct):List SC:=[.int .i64 x61.stop,.int .i64 x61.tm.lo,.int .i64 x61.tm.hi]
abbrev Dn (b_buses b_from_ b_r_ b_see a f:Nat):AG:=[(b_buses,0),(b_from_,0),(b_r_,0),(b_see,0),(a,0),(f,0)]
abbrev OU (c:BN) (x_v10:Int):List SC:=[.int .i64 (IntKind.i64.wrap (c.number+(if 1<x_v10 then 1 else x_v10))),.int .i64 (IntKind.i64.wrap (c.sum+x_v10))]
abbrev KQ (b_buses b_from_ b_r_ b_see a f ag aj:Nat) (at_ buses:Int):AG:=[(b_buses,0),(b_from_,0),(b_r_,0),(b_see,0),(a,0),(f,0),(ag,aj+(IntKind.i64.wrap (at_-buses):Int).toNat*3)]
abbrev OV (c:BN) (x_v20:Int):List SC:=[.int .i64 (IntKind.i64.wrap (c.number+(if 1<(IntKind.i64.wrap (x_v20+1)) then 1 else(IntKind.i64.wrap (x_v20+1))))),.int .i64 c.sum]
abbrev JN (b_buses b_from_ b_r_ b_see:Nat):List SC:=[.func (.func 85) #[] #[.pointer (some ⟨b_buses,0,none⟩),.pointer (some ⟨b_from_,0,none⟩),.pointer (some ⟨b_r_,0,none⟩),.pointer (some ⟨b_see,0,none⟩)]]
abbrev NV (aa:Bb) (d:Aw):List SC:=[.int .i64 aa.a0,.int .i64 aa.a1,.int .i64 aa.a2,.int .i64 aa.a3,.int .i64 d.turns.a0,.int .i64 d.turns.a1,.int .i64 d.turns.a2,.int .i64 d.turns.a3,.bool d.spares.a0,.bool d.spares.a1]
abbrev Pz (d:Aw) (x_v21:Bb):List SC:=[.int .i64 d.holds.a0,.int .i64 d.holds.a1,.int .i64 d.holds.a2,.int .i64 d.holds.a3,.int .i64 x_v21.a0,.int .i64 x_v21.a1,.int .i64 x_v21.a2,.int .i64 x_v21.a3,.bool d.spares.a0,.bool d.spares.a1]
abbrev Mr (d:Aw) (z:Bb):List SC:=[.int .i64 d.holds.a0,.int .i64 d.holds.a1,.int .i64 d.holds.a2,.int .i64 d.holds.a3,.int .i64 z.a0,.int .i64 z.a1,.int .i64 z.a2,.int .i64 z.a3,.bool d.spares.a0,.bool d.spares.a1]
abbrev Ms (d:Aw) (af:Bg):List SC:=[.int .i64 d.holds.a0,.int .i64 d.holds.a1,.int .i64 d.holds.a2,.int .i64 d.holds.a3,.int .i64 d.turns.a0,.int .i64 d.turns.a1,.int .i64 d.turns.a2,.int .i64 d.turns.a3,.bool af.a0,.bool af.a1]
abbrev DX (l:Option Addr) (r_:Ag) (p:Nat) (i:Option Addr) (k:Nat) (m:Option Addr) (q:Nat):List SC:=[.slice l r_.legs.length p,.int .i64 r_.turn.lo,.int .i64 r_.turn.hi,.slice i r_.buses.length k,.slice m r_.spares.length q,.int .i64 r_.unit,.int .i64 r_.gap,.int .i64 r_.fr,.int .i64 r_.to_]
abbrev Ip (d:Aw):List SC:=[.int .i64 d.holds.a0,.int .i64 d.holds.a1,.int .i64 d.holds.a2,.int .i64 d.holds.a3,.int .i64 d.turns.a0,.int .i64 d.turns.a1,.int .i64 d.turns.a2,.int .i64 d.turns.a3,.bool d.spares.a0,.bool d.spares.a1]
abbrev El (x_v20 at_:Int):TM:=[tI 11 x_v20,tP 8 5 0,tP 7 4 0,tI 2 at_,tP 3 0 0,tP 4 1 0,tP 5 2 0]
abbrev G7 (x_v30 at_:Int):TM:=[tI 94 x_v30,tP 8 5 0,tP 7 4 0,tI 2 at_,tP 3 0 0,tP 4 1 0]
abbrev G8 (x_v10 at_:Int):TM:=[tI 21 x_v10,tP 8 5 0,tP 7 4 0,tI 2 at_,tP 4 1 0]
abbrev KR (at_:Int):TM:=[tI 2 at_,tP 3 0 0,tP 4 1 0,tP 5 2 0,tP 6 3 0]
abbrev N9 (at_:Int):TM:=[tP 8 5 0,tP 7 4 0,tI 2 at_,tP 3 0 0,tP 4 1 0,tP 5 2 0]
set_option maxRecDepth 100000 in
set_option maxHeartbeats 4000000 in
theorem F6 (n:Nat):∀ (F:Fr)(h:Ad)(w:World)(σ:Type)(XS:σ→Fr→Ad→Prop)(B:Nat→Prop)(hXS:Px XS B)(see_:σ→Aw→BN→Option σ)(fn_see:Fn)(fa_see fc_see:Array Value)(hy:Ou XS B (.func fn_see fa_see fc_see) see_)(b_buses b_from_ b_r_ b_see:Nat)(d:Aw)(cs_d:List Value)(hx_d:rep h d cs_d)(c:BN)(cs_c:List Value)(hx_c:rep h c cs_c)(at_:Int)(buses:Int)(hb_buses:Cv h b_buses buses)(hc_from_:A8 h b_from_ [.func (.func 85) #[] #[.pointer (some ⟨b_buses,0,none⟩),.pointer (some ⟨b_from_,0,none⟩),.pointer (some ⟨b_r_,0,none⟩),.pointer (some ⟨b_see,0,none⟩)]])(r_:Ag)(hb_r_:Cv h b_r_ r_)(hc_see:A8 h b_see [.func fn_see fa_see fc_see])(s:σ)(hs:XS s F h)(hm:Ah F h [] [] [] w)(r:σ)(H:control_Route_every_1 n see_ d c at_ buses r_ s=some r),
  Calls Try.prog 85 #[.agg cs_d.toArray,.agg cs_c.toArray,.int .i64 at_,.pointer (some ⟨b_buses,0,none⟩),.pointer (some ⟨b_from_,0,none⟩),.pointer (some ⟨b_r_,0,none⟩),.pointer (some ⟨b_see,0,none⟩)] w (Po XS B F h r):=by
 induction n using Nat.strongRecOn with
 | _ n ih =>
  intro F h w σ XS B hXS see_ fn_see fa_see fc_see hy b_buses b_from_ b_r_ b_see d cs_d hx_d c cs_c hx_c at_ buses hb_buses hc_from_ r_ hb_r_ hc_see s hs hm r H
  obtain _ | n:=n
  ·
   rw [control_Route_every_1] at H; cases H
  obtain⟨_,_,rfl,⟨_,_,rfl,rfl,⟨_,_,rfl,rfl,⟨_,_,rfl,rfl,rfl⟩⟩⟩,⟨_,_,rfl,⟨_,_,rfl,rfl,⟨_,_,rfl,rfl,⟨_,_,rfl,rfl,rfl⟩⟩⟩,⟨_,_,rfl,rfl,rfl⟩⟩⟩:=hx_d
  obtain⟨_,_,rfl,rfl,rfl⟩:=hx_c
  obtain⟨_,hx_buses,hc_buses⟩:=id hb_buses
  obtain rfl:=hx_buses
  obtain⟨_,hx_r_,hc_r_⟩:=id hb_r_
  obtain⟨_,_,rfl,⟨l,p,rfl,ab⟩,⟨_,_,rfl,⟨_,_,rfl,rfl,rfl⟩,⟨_,_,rfl,⟨i,k,rfl,x⟩,⟨_,_,rfl,⟨m,q,rfl,ac⟩,⟨_,_,rfl,rfl,⟨_,_,rfl,rfl,⟨_,_,rfl,rfl,rfl⟩⟩⟩⟩⟩⟩⟩:=hx_r_
  refine FN (e:=[(b_buses,0),(b_from_,0),(b_r_,0),(b_see,0)]) 118 [.agg (Ip d),.agg (FK c),.c (.int .i64 at_),.c (.ptr 0 0),.c (.ptr 1 0),.c (.ptr 2 0),.c (.ptr 3 0)] Try.func85 rfl rfl rfl rfl fun t hk=>?_
  replace hm:=hm.addPlc (o:=0) (cs:=[.int .i64 buses]) (fun j c hj=>by rw [Nat.zero_add]; exact hc_buses j _ (Al hj)) rfl (by kernel_rfl) (by kernel_rfl)
  replace hm:=hm.addPlc (o:=0) (cs:=[.func (.func 85) #[] #[.pointer (some ⟨b_buses,0,none⟩),.pointer (some ⟨b_from_,0,none⟩),.pointer (some ⟨b_r_,0,none⟩),.pointer (some ⟨b_see,0,none⟩)]]) (fun j c hj=>by rw [Nat.zero_add]; exact hc_from_ j _ (Al hj)) rfl (by kernel_rfl) (by kernel_rfl)
  replace hm:=hm.addPlc (o:=0) (cs:=[.slice l r_.legs.length p,.int .i64 r_.turn.lo,.int .i64 r_.turn.hi,.slice i r_.buses.length k,.slice m r_.spares.length q,.int .i64 r_.unit,.int .i64 r_.gap,.int .i64 r_.fr,.int .i64 r_.to_]) (fun j c hj=>by rw [Nat.zero_add]; exact hc_r_ j _ (Al hj)) rfl (by kernel_rfl) (by kernel_rfl)
  replace hm:=hm.addPlc (o:=0) (cs:=[.func fn_see fa_see fc_see]) (fun j c hj=>by rw [Nat.zero_add]; exact hc_see j _ (Al hj)) rfl (by kernel_rfl) (by kernel_rfl)
  replace hm:Ah F h [(b_buses,0),(b_from_,0),(b_r_,0),(b_see,0)] [⟨[.int .i64 buses],none⟩,⟨JN b_buses b_from_ b_r_ b_see,none⟩,⟨DX l r_ p i k m q,none⟩,⟨[.func fn_see fa_see fc_see],none⟩] [] w:=hm
  rw [control_Route_every_1] at H
  refine QT (Ab (wl fun K hK=>?_))
  refine wb (.agg (Ip d)) hk hm fun a gj ig (d2:Kn 118 [(b_buses,0),(b_from_,0),(b_r_,0),(b_see,0),(a,0)] ((tP 7 4 0)::(tA 0 (Ip d))::(tA 1 (FK c))::(KR at_)) gj) fc=>hK _ _ ?_
  refine wl fun K hK=>?_
  refine wb (.agg (FK c)) d2 fc fun f cu il (eb:Kn 118 (Dn b_buses b_from_ b_r_ b_see a f) ((tP 8 5 0)::(tP 7 4 0)::(tA 0 (Ip d))::(tA 1 (FK c))::(KR at_)) cu) ae=>hK _ _ ?_
  have ef:Kn 118 (Dn b_buses b_from_ b_r_ b_see a f) ((tP 8 5 0)::(tP 7 4 0)::(KR at_)) cu:=eb.kp
  refine wf (wp_block (QT (Ab (Rk 0 4 ((tB 17 (decide (at_<buses)))::(tP 8 5 0)::(tP 7 4 0)::(KR at_)) ef ae fun hq bp=>?_))))
  refine wf (wC (decide (at_<buses)) bp (fun bi=>?_) (fun bi=>?_))
  ·
   rw [bi,QW] at H
   refine QT (Ab (Rk 0 1 [tI 21 0,tP 8 5 0,tP 7 4 0,tI 2 at_,tP 4 1 0] bp ae fun hv en=>?_))
   refine wf ?_
   obtain⟨av,b5,H⟩:=A3 H
   refine A7 (fun a' w'=>∃ (a4:Fr)(b1:Array Value)(a8:Ad),a' = ⟨b1,[]⟩∧Kn 118 (Dn b_buses b_from_ b_r_ b_see a f) [] b1∧Ah a4 a8 (Dn b_buses b_from_ b_r_ b_see a f) [⟨[.int .i64 buses],none⟩,⟨JN b_buses b_from_ b_r_ b_see,none⟩,⟨DX l r_ p i k m q,none⟩,⟨[.func fn_see fa_see fc_see],none⟩,⟨[.int .i64 av.1.a0,.int .i64 av.1.a1,.int .i64 av.1.a2,.int .i64 av.1.a3,.int .i64 d.turns.a0,.int .i64 d.turns.a1,.int .i64 d.turns.a2,.int .i64 d.turns.a3,.bool d.spares.a0,.bool d.spares.a1],some 102⟩,⟨FK c,some 104⟩] [] w'∧Ad.le h a8∧Fr.Sim B F a4∧XS av.2 a4 a8) ?_ ?_
   ·
    refine wp_block ?_
    refine A5 (fun cr a' w'=>∃ (x_v10:Int)(x_v11:Bb)(x_v12:σ)(az:Fr)(b2:Array Value)(ar:Ad),a' = ⟨b2,[]⟩∧Kn 118 (Dn b_buses b_from_ b_r_ b_see a f) (G8 x_v10 at_) b2∧Ah az ar (Dn b_buses b_from_ b_r_ b_see a f) [⟨[.int .i64 buses],none⟩,⟨JN b_buses b_from_ b_r_ b_see,none⟩,⟨DX l r_ p i k m q,none⟩,⟨[.func fn_see fa_see fc_see],none⟩,⟨[.int .i64 x_v11.a0,.int .i64 x_v11.a1,.int .i64 x_v11.a2,.int .i64 x_v11.a3,.int .i64 d.turns.a0,.int .i64 d.turns.a1,.int .i64 d.turns.a2,.int .i64 d.turns.a3,.bool d.spares.a0,.bool d.spares.a1],some 102⟩,⟨FK c,some 104⟩] [] w'∧Ad.le h ar∧Fr.Sim B F az∧XS x_v12 az ar∧cr≤n∧Bu cr see_ d c at_ buses r_ x_v10 x_v11 x_v12=some av) n ?_ ?_
    ·
     exact QY 0 ⟨d.holds,s,F,_,_,rfl,en.kp,ae,Ad.le_refl _,Fr.Sim.refl B F,hs,Nat.le_refl _,b5⟩
    ·
     rintro bd _ iw ⟨x_v10,x_v11,x_v12,az,b2,ar,rfl,ev,bb,al,co,b7,g5,v⟩
     clear b5
     obtain _ | bd:=bd
     ·
      rw [Bu] at v; cases v
     rw [Bu] at v
     replace hb_buses:=hb_buses.mono al
     replace hc_from_:=hc_from_.mono al
     replace ab:=ab.mono al
     replace x:=x.mono al
     replace ac:=ac.mono al
     replace hb_r_:=hb_r_.mono al
     replace hc_see:=hc_see.mono al
     refine QT (Ab (Rk 0 1 ((tB 22 (decide (x_v10<3)))::(G8 x_v10 at_)) ev bb fun h0 br=>?_))
     refine wf (QT (wC (decide (x_v10<3)) br (fun bk=>?_) (fun bk=>?_)))
     ·
      rw [bk,QW] at v
      refine wp_skip (QT (wp_block (QT (Ab (Rk 0 2 ((tI 10 x_v10)::(G8 x_v10 at_)) br bb fun h1 ew=>?_)))))
      refine wf (QT (Ab (Rk 0 3 ((tP 26 4 0)::(tI 25 x_v10)::(tI 24 at_)::(tI 10 x_v10)::(G8 x_v10 at_)) ew bb fun h2 cc=>?_)))
      obtain⟨x27,ex27,v⟩:=A3 v
      obtain⟨fo,ft⟩:=Kx ex27
      refine Ln 3 (.one (.c (.ptr 4 (0+(at_:Int).toNat*1)))) rfl (rfl) rfl (HZ (E:=3) cc rfl (by kernel_rfl) (by kernel_rfl) (by rfl) (by rfl) fo ft) (cc.put (by decide) _) fun c0 (ex:Kn 118 (Dn b_buses b_from_ b_r_ b_see a f) ((tP 27 4 (0+(at_:Int).toNat*1))::(tP 26 4 0)::(tI 25 x_v10)::(tI 24 at_)::(tI 10 x_v10)::(G8 x_v10 at_)) c0)=>?_
      obtain⟨aa,c8,v⟩:=A3 v
      obtain⟨g8,hb,gi⟩:=Bb.setI_some c8
      refine wl fun K hK=>?_
      refine Iy 4 (0+(at_:Int).toNat*1) (.c (.int .i64 x_v10)) (NV aa d) ex bb rfl rfl (by rfl) (by rfl) (by rfl) (by kernel_rfl) (by refine decide_eq_true ?_; show(0+(at_:Int).toNat*1)+1≤10; omega) (LW (fun(y:Int)=>([.int .i64 y]:List SC)) 1 (fun _=>rfl) [] [.int .i64 d.turns.a0,.int .i64 d.turns.a1,.int .i64 d.turns.a2,.int .i64 d.turns.a3,.bool d.spares.a0,.bool d.spares.a1] x_v11.toL aa.toL (at_:Int).toNat x_v10 gi (show(at_:Int).toNat<4 by omega) rfl rfl rfl) fun ix ey cl=>hK _ _ ?_
      have ez:Kn 118 (Dn b_buses b_from_ b_r_ b_see a f) ((tI 10 x_v10)::(G8 x_v10 at_)) c0:=ey.kp
      refine wf (Ab (Rk 0 14 ((tI 41 (IntKind.i64.wrap (at_+1)))::(tA 39 (OU c x_v10))::(tA 29 (NV aa d))::(28,.one (.c (.func (.func 85) #[] #[.pointer (some ⟨b_buses,0,none⟩),.pointer (some ⟨b_from_,0,none⟩),.pointer (some ⟨b_r_,0,none⟩),.pointer (some ⟨b_see,0,none⟩)])))::(G8 x_v10 at_)) ez cl fun h3 e0=>?_))
      obtain⟨x42,ex42,v⟩:=A3 v
      obtain⟨gu,e8,dt,fx⟩:=cl.lendS hXS b7
      refine wl fun K hK=>?_
      refine Ga (.func (.func 85) #[] #[.pointer (some ⟨b_buses,0,none⟩),.pointer (some ⟨b_from_,0,none⟩),.pointer (some ⟨b_r_,0,none⟩),.pointer (some ⟨b_see,0,none⟩)]) [.agg (NV aa d),.agg (OU c x_v10),.c (.int .i64 (IntKind.i64.wrap (at_+1)))] _ e0 rfl rfl (by decide) (by rfl) (by rfl) rfl ⟨85,_,_,rfl,fun _ _=>by kernel_rfl,ih bd (by omega) _ _ _ _ _ _ hXS see_ _ _ _ hy _ _ _ _ (Aw.mk aa d.turns d.spares) _ ((Aa (Aa Ac (Aa Ac (Aa Ac Ac))) (Aa (Aa Ac (Aa Ac (Aa Ac Ac))) (Aa AS AS))):rep ar (Aw.mk aa d.turns d.spares) _) (BN.mk (IntKind.i64.wrap (c.number+(if 1<x_v10 then 1 else x_v10))) (IntKind.i64.wrap (c.sum+x_v10))) _ ((Aa Ac Ac):rep ar (BN.mk (IntKind.i64.wrap (c.number+(if 1<x_v10 then 1 else x_v10))) (IntKind.i64.wrap (c.sum+x_v10))) _) (IntKind.i64.wrap (at_+1)) buses hb_buses hc_from_ r_ hb_r_ hc_see x_v12 dt e8 _ ex42⟩ fun ic iy ds=>?_
      obtain⟨rfl,gy,gp,cg,ga,du,fj⟩:=ds
      obtain⟨c5,gb,dv,cm⟩:=fx _ _ _ _ cg ga du fj
      have gc:=Fr.Sim.trans co gb
      refine⟨.tup [],rfl,fun c1 (e1:Kn 118 (Dn b_buses b_from_ b_r_ b_see a f) ((42,.tup [])::(tI 41 (IntKind.i64.wrap (at_+1)))::(tA 39 (OU c x_v10))::(tA 29 (NV aa d))::(28,.one (.c (.func (.func 85) #[] #[.pointer (some ⟨b_buses,0,none⟩),.pointer (some ⟨b_from_,0,none⟩),.pointer (some ⟨b_r_,0,none⟩),.pointer (some ⟨b_see,0,none⟩)])))::(G8 x_v10 at_)) c1)=>hK _ _ ?_⟩
      have e2:Kn 118 (Dn b_buses b_from_ b_r_ b_see a f) (G8 x_v10 at_) c1:=e1.kp
      refine wf (Ab (Rk 0 2 [tI 21 (IntKind.i64.wrap (x_v10+1)),tP 8 5 0,tP 7 4 0,tI 2 at_,tP 4 1 0] e2 cm fun h4 e3=>?_))
      refine wf ?_
      exact QY bd ⟨Nat.lt_succ_self _,QY (IntKind.i64.wrap (x_v10+1)) ⟨aa,x42,c5,_,_,rfl,e3.kp,cm,QU al cg,gc,dv,(by omega),v⟩⟩
     ·
      rw [bk,QV] at v
      refine wp_exit ?_
      obtain rfl:=QZ v
      exact QY az ⟨_,_,rfl,br.kp,bb,al,co,b7⟩
   ·
    rintro _ iz ⟨a4,b1,a8,rfl,g2,fk,fb,f9,dr⟩
    obtain rfl:=QZ H
    exact Fs rfl ⟨rfl,a8,a4,fb,f9,dr,(fk.cutRw 0).cutPl 0 (by kernel_rfl)⟩
  ·
   rw [bi,QV] at H
   refine QT (Ab (Rk 0 5 ((tB 44 (decide (at_<(IntKind.i64.wrap (2*buses)))))::(tP 8 5 0)::(tP 7 4 0)::(KR at_)) bp ae fun h5 bs=>?_))
   refine wf (wC (decide (at_<(IntKind.i64.wrap (2*buses)))) bs (fun bl=>?_) (fun bl=>?_))
   ·
    rw [bl,QW] at H
    refine QT (Ab (Rk 0 1 ((tI 11 (-1))::(N9 at_)) bs ae fun h6 e4=>?_))
    refine wf ?_
    obtain⟨au,b3,H⟩:=A3 H
    refine A7 (fun a' w'=>∃ (aw:Fr)(bw:Array Value)(a5:Ad),a' = ⟨bw,[]⟩∧Kn 118 (Dn b_buses b_from_ b_r_ b_see a f) [] bw∧Ah aw a5 (Dn b_buses b_from_ b_r_ b_see a f) [⟨[.int .i64 buses],none⟩,⟨JN b_buses b_from_ b_r_ b_see,none⟩,⟨DX l r_ p i k m q,none⟩,⟨[.func fn_see fa_see fc_see],none⟩,⟨[.int .i64 d.holds.a0,.int .i64 d.holds.a1,.int .i64 d.holds.a2,.int .i64 d.holds.a3,.int .i64 au.1.a0,.int .i64 au.1.a1,.int .i64 au.1.a2,.int .i64 au.1.a3,.bool d.spares.a0,.bool d.spares.a1],some 102⟩,⟨FK c,some 104⟩] [] w'∧Ad.le h a5∧Fr.Sim B F aw∧XS au.2 aw a5) ?_ ?_
    ·
     refine wp_block ?_
     refine A5 (fun cp a' w'=>∃ (x_v20:Int)(x_v21:Bb)(x_v22:σ)(ap:Fr)(bx:Array Value)(a6:Ad),a' = ⟨bx,[]⟩∧Kn 118 (Dn b_buses b_from_ b_r_ b_see a f) (El x_v20 at_) bx∧Ah ap a6 (Dn b_buses b_from_ b_r_ b_see a f) [⟨[.int .i64 buses],none⟩,⟨JN b_buses b_from_ b_r_ b_see,none⟩,⟨DX l r_ p i k m q,none⟩,⟨[.func fn_see fa_see fc_see],none⟩,⟨Pz d x_v21,some 102⟩,⟨FK c,some 104⟩] [] w'∧Ad.le h a6∧Fr.Sim B F ap∧XS x_v22 ap a6∧cp≤n∧AZ cp see_ d c at_ buses r_ x_v20 x_v21 x_v22=some au) n ?_ ?_
     ·
      exact QY (-1) ⟨d.turns,s,F,_,_,rfl,e4.kp,ae,Ad.le_refl _,Fr.Sim.refl B F,hs,Nat.le_refl _,b3⟩
     ·
      rintro ao _ ie ⟨x_v20,x_v21,x_v22,ap,bx,a6,rfl,dz,bt,ah,bv,am,g3,g⟩
      clear b3
      obtain _ | ao:=ao
      ·
       rw [AZ] at g; cases g
      rw [AZ] at g
      replace ab:=ab.mono ah
      replace x:=x.mono ah
      replace ac:=ac.mono ah
      refine QT (QT (Ab (Rk 0 2 ((tA 50 (DX l r_ p i k m q))::(tI 49 x_v20)::(El x_v20 at_)) dz bt fun hc d0=>?_)))
      obtain⟨x51,ex51,g⟩:=A3 g
      refine wl fun K hK=>?_
      refine wc [.agg (DX l r_ p i k m q)] d0 bt (De ao bt.has r_ ((Aa (Ae ab) (Aa (Aa Ac Ac) (Aa (Ae x) (Aa (Ae ac) (Aa Ac (Aa Ac (Aa Ac Ac))))))):rep a6 r_ _) ex51) fun h7 b8 ii c9 ad an=>?_
      replace hb_buses:=hb_buses.mono (QU ah ad)
      replace hc_from_:=hc_from_.mono (QU ah ad)
      replace ab:=ab.mono ad
      replace x:=x.mono ad
      replace ac:=ac.mono ad
      replace hb_r_:=hb_r_.mono (QU ah ad)
      replace hc_see:=hc_see.mono (QU ah ad)
      replace am:=hXS.up am ad
      obtain rfl:=c9
      refine⟨.one (.c (.int .i64 x51)),rfl,fun gk (d1:Kn 118 (Dn b_buses b_from_ b_r_ b_see a f) ((tI 51 x51)::(tA 50 (DX l r_ p i k m q))::(tI 49 x_v20)::(El x_v20 at_)) gk)=>hK _ _ ?_⟩
      refine Rk 3 1 ((tB 52 (decide (x_v20<x51)))::(El x_v20 at_)) d1 an fun hd bm=>?_
      refine wf (wC (decide (x_v20<x51)) bm (fun bf=>?_) (fun bf=>?_))
      ·
       rw [bf,QW] at g
       refine wp_skip (QT (wp_block (QT (Ao (by kernel_rfl) ?_))))
       replace an:=an.drew
       refine At [] (Dn b_buses b_from_ b_r_ b_see a f) [⟨[.int .i64 buses],none⟩,⟨JN b_buses b_from_ b_r_ b_see,none⟩,⟨DX l r_ p i k m q,none⟩,⟨[.func fn_see fa_see fc_see],none⟩,⟨Pz d x_v21,some 102⟩,⟨FK c,some 104⟩] ?_
       refine Dr [0,1,2,3,4,5] (dn 5) ((tI 60 (IntKind.i64.wrap (at_-buses)))::(tS 57 i r_.buses.length k)::(tA 55 (DX l r_ p i k m q))::(El x_v20 at_)) bm an fun he d3=>?_
       obtain⟨x61,ex61,g⟩:=A3 g
       obtain⟨fl,fp,gf⟩:=Ak ex61
       obtain⟨ag,aj,gv,dx,gd,dy⟩:=x.get (by decide) gf
       obtain⟨_,_,rfl,rfl,⟨_,_,rfl,rfl,rfl⟩⟩:=gd
       have bu:=an.addPlc (b:=ag) (o:=aj+(IntKind.i64.wrap (at_-buses):Int).toNat*3) (cs:=(Nb x61)) (fun j c hj=>dy j _ (Al hj)) rfl (by kernel_rfl) (by kernel_rfl)
       refine AY 6 (IntKind.i64.wrap (at_-buses)) (Nb x61) (fun _ _ _ _ _ h=>h) rfl rfl (rfl) rfl (by decide) (by kernel_rfl) (by kernel_rfl) d3 an.plOk (by rfl) (by rfl) (by rfl) dx (by rfl) fl fp (by kernel_rfl) fun gl (d4:Kn 118 (KQ b_buses b_from_ b_r_ b_see a f ag aj at_ buses) ((tP 61 6 0)::(tI 60 (IntKind.i64.wrap (at_-buses)))::(tS 57 i r_.buses.length k)::(tA 55 (DX l r_ p i k m q))::(El x_v20 at_)) gl)=>?_
       refine Dr [7,8] (dn 8) ((tI 63 x_v20)::(tA 62 (Nb x61))::(tA 55 (DX l r_ p i k m q))::(El x_v20 at_)) d4 bu fun hf d5=>?_
       obtain⟨x64,ex64,g⟩:=A3 g
       refine Dl 9 fun K hK=>?_
       refine wc [.agg (DX l r_ p i k m q),.agg (Nb x61),.c (.int .i64 x_v20)] d5 bu (E7 ao bu.has r_ ((Aa (Ae ab) (Aa (Aa Ac Ac) (Aa (Ae x) (Aa (Ae ac) (Aa Ac (Aa Ac (Aa Ac Ac))))))):rep b8 r_ _) x61 ((Aa Ac (Aa Ac Ac)):rep b8 x61 _) x_v20 ex64) fun h8 b9 ij da ai a9=>?_
       replace hb_buses:=hb_buses.mono ai
       replace hc_from_:=hc_from_.mono ai
       replace ab:=ab.mono ai
       replace x:=x.mono ai
       replace ac:=ac.mono ai
       replace hb_r_:=hb_r_.mono ai
       replace hc_see:=hc_see.mono ai
       replace am:=hXS.up am ai
       obtain rfl:=da
       refine⟨.one (.c (.bool x64)),rfl,fun ct (d6:Kn 118 (KQ b_buses b_from_ b_r_ b_see a f ag aj at_ buses) ((tB 64 x64)::(tI 63 x_v20)::(tA 62 (Nb x61))::(tA 55 (DX l r_ p i k m q))::(El x_v20 at_)) ct)=>hK _ _ a9.plOk ?_⟩
       have bn:Kn 118 (KQ b_buses b_from_ b_r_ b_see a f ag aj at_ buses) ((tB 64 x64)::(El x_v20 at_)) ct:=d6.kp
       refine AH (by kernel_rfl) (wC (x64) bn (fun bg=>?_) (fun bg=>?_))
       ·
        rw [bg,QW] at g
        refine QT (Ab (Rk 0 5 ((tP 69 4 4)::(tI 68 x_v20)::(tI 67 (IntKind.i64.wrap (at_-buses)))::(El x_v20 at_)) bn a9 fun hg ca=>?_))
        obtain⟨x70,ex70,g⟩:=A3 g
        obtain⟨fm,fq⟩:=Kx ex70
        refine Ln 5 (.one (.c (.ptr 4 (4+(IntKind.i64.wrap (at_-buses):Int).toNat*1)))) rfl (rfl) rfl (HZ (E:=3) ca rfl (by kernel_rfl) (by kernel_rfl) (by rfl) (by rfl) fm fq) (ca.put (by decide) _) fun cv (d7:Kn 118 (KQ b_buses b_from_ b_r_ b_see a f ag aj at_ buses) ((tP 70 4 (4+(IntKind.i64.wrap (at_-buses):Int).toNat*1))::(tP 69 4 4)::(tI 68 x_v20)::(tI 67 (IntKind.i64.wrap (at_-buses)))::(El x_v20 at_)) cv)=>?_
        obtain⟨z,c6,g⟩:=A3 g
        obtain⟨g6,g9,gg⟩:=Bb.setI_some c6
        refine wl fun K hK=>?_
        refine Iy 4 (4+(IntKind.i64.wrap (at_-buses):Int).toNat*1) (.c (.int .i64 x_v20)) (Mr d z) d7 a9 rfl rfl (by rfl) (by rfl) (by rfl) (by kernel_rfl) (by refine decide_eq_true ?_; show(4+(IntKind.i64.wrap (at_-buses):Int).toNat*1)+1≤10; omega) (LW (fun(y:Int)=>([.int .i64 y]:List SC)) 1 (fun _=>rfl) [.int .i64 d.holds.a0,.int .i64 d.holds.a1,.int .i64 d.holds.a2,.int .i64 d.holds.a3] [.bool d.spares.a0,.bool d.spares.a1] x_v21.toL z.toL (IntKind.i64.wrap (at_-buses):Int).toNat x_v20 gg (show(IntKind.i64.wrap (at_-buses):Int).toNat<4 by omega) rfl rfl rfl) fun ik d8 ch=>hK _ _ ?_
        have d9:Kn 118 (KQ b_buses b_from_ b_r_ b_see a f ag aj at_ buses) (El x_v20 at_) cv:=d8.kp
        refine wf (Ab (Rk 0 13 ((tI 83 (IntKind.i64.wrap (at_+1)))::(tA 81 (OV c x_v20))::(tA 72 (Mr d z))::(71,.one (.c (.func (.func 85) #[] #[.pointer (some ⟨b_buses,0,none⟩),.pointer (some ⟨b_from_,0,none⟩),.pointer (some ⟨b_r_,0,none⟩),.pointer (some ⟨b_see,0,none⟩)])))::(El x_v20 at_)) d9 ch fun hh ea=>?_))
        obtain⟨x84,ex84,g⟩:=A3 g
        obtain⟨gq,e5,dd,fu⟩:=ch.lendS hXS am
        refine wl fun K hK=>?_
        refine Ga (.func (.func 85) #[] #[.pointer (some ⟨b_buses,0,none⟩),.pointer (some ⟨b_from_,0,none⟩),.pointer (some ⟨b_r_,0,none⟩),.pointer (some ⟨b_see,0,none⟩)]) [.agg (Mr d z),.agg (OV c x_v20),.c (.int .i64 (IntKind.i64.wrap (at_+1)))] _ ea rfl rfl (by decide) (by rfl) (by rfl) rfl ⟨85,_,_,rfl,fun _ _=>by kernel_rfl,ih ao (by omega) _ _ _ _ _ _ hXS see_ _ _ _ hy _ _ _ _ (Aw.mk d.holds z d.spares) _ ((Aa (Aa Ac (Aa Ac (Aa Ac Ac))) (Aa (Aa Ac (Aa Ac (Aa Ac Ac))) (Aa AS AS))):rep b9 (Aw.mk d.holds z d.spares) _) (BN.mk (IntKind.i64.wrap (c.number+(if 1<(IntKind.i64.wrap (x_v20+1)) then 1 else(IntKind.i64.wrap (x_v20+1))))) c.sum) _ ((Aa Ac Ac):rep b9 (BN.mk (IntKind.i64.wrap (c.number+(if 1<(IntKind.i64.wrap (x_v20+1)) then 1 else(IntKind.i64.wrap (x_v20+1))))) c.sum) _) (IntKind.i64.wrap (at_+1)) buses hb_buses hc_from_ r_ hb_r_ hc_see x_v22 dd e5 _ ex84⟩ fun h9 im dc=>?_
        obtain⟨rfl,gw,gm,cd,fz,de,fd⟩:=dc
        obtain⟨c2,f0,df,ci⟩:=fu _ _ _ _ cd fz de fd
        have f1:=Fr.Sim.trans bv f0
        refine⟨.tup [],rfl,fun cw (ec:Kn 118 (KQ b_buses b_from_ b_r_ b_see a f ag aj at_ buses) ((84,.tup [])::(tI 83 (IntKind.i64.wrap (at_+1)))::(tA 81 (OV c x_v20))::(tA 72 (Mr d z))::(71,.one (.c (.func (.func 85) #[] #[.pointer (some ⟨b_buses,0,none⟩),.pointer (some ⟨b_from_,0,none⟩),.pointer (some ⟨b_r_,0,none⟩),.pointer (some ⟨b_see,0,none⟩)])))::(El x_v20 at_)) cw)=>hK _ _ ?_⟩
        have ed:Kn 118 (KQ b_buses b_from_ b_r_ b_see a f ag aj at_ buses) (El x_v20 at_) cw:=ec.kp
        refine wf (Ab (Rk 0 3 ((tI 11 (IntKind.i64.wrap (x_v20+1)))::(N9 at_)) ed ci fun hl ee=>?_))
        refine wf ?_
        exact QY ao ⟨Nat.lt_succ_self _,QY (IntKind.i64.wrap (x_v20+1)) ⟨z,x84,c2,_,_,rfl,(ee.keep [11,8,7,2,3,4,5] (by rfl)).cut 6 (by kernel_rfl),ci.cutPl 6 (by kernel_rfl),QU ah (QU ad (QU ai cd)),f1,df,(by omega),g⟩⟩
       ·
        rw [bg,QV] at g
        refine wp_skip (Ab (Rk 0 3 ((tI 11 (IntKind.i64.wrap (x_v20+1)))::(N9 at_)) bn a9 fun hn eg=>?_))
        refine wf ?_
        exact QY ao ⟨Nat.lt_succ_self _,QY (IntKind.i64.wrap (x_v20+1)) ⟨x_v21,x_v22,ap,_,_,rfl,(eg.keep [11,8,7,2,3,4,5] (by rfl)).cut 6 (by kernel_rfl),a9.cutPl 6 (by kernel_rfl),QU ah (QU ad ai),bv,am,(by omega),g⟩⟩
      ·
       rw [bf,QV] at g
       refine wp_exit ?_
       obtain rfl:=QZ g
       exact QY ap ⟨_,_,rfl,bm.kp,an,QU ah ad,bv,am⟩
    ·
     rintro _ io ⟨aw,bw,a5,rfl,gz,fe,e9,fy,db⟩
     obtain rfl:=QZ H
     exact Fs rfl ⟨rfl,a5,aw,e9,fy,db,(fe.cutRw 0).cutPl 0 (by kernel_rfl)⟩
   ·
    rw [bl,QV] at H
    refine QT (Ab (Rk 0 9 [tB 85 (decide (at_<(IntKind.i64.wrap ((IntKind.i64.wrap (2*buses))+((r_.spares.length:Nat):Int))))),tP 8 5 0,tP 7 4 0,tI 2 at_,tP 3 0 0,tP 4 1 0,tP 6 3 0] bs ae fun ho bo=>?_))
    refine wf (wC (decide (at_<(IntKind.i64.wrap ((IntKind.i64.wrap (2*buses))+((r_.spares.length:Nat):Int))))) bo (fun bh=>?_) (fun bh=>?_))
    ·
     rw [bh,QW] at H
     refine QT (Ab (Rk 0 1 [tI 94 0,tP 8 5 0,tP 7 4 0,tI 2 at_,tP 3 0 0,tP 4 1 0] bo ae fun hp eh=>?_))
     refine wf ?_
     obtain⟨be,b4,H⟩:=A3 H
     refine A7 (fun a' w'=>∃ (ay:Fr)(bz:Array Value)(a7:Ad),a' = ⟨bz,[]⟩∧Kn 118 (Dn b_buses b_from_ b_r_ b_see a f) [] bz∧Ah ay a7 (Dn b_buses b_from_ b_r_ b_see a f) [⟨[.int .i64 buses],none⟩,⟨JN b_buses b_from_ b_r_ b_see,none⟩,⟨DX l r_ p i k m q,none⟩,⟨[.func fn_see fa_see fc_see],none⟩,⟨[.int .i64 d.holds.a0,.int .i64 d.holds.a1,.int .i64 d.holds.a2,.int .i64 d.holds.a3,.int .i64 d.turns.a0,.int .i64 d.turns.a1,.int .i64 d.turns.a2,.int .i64 d.turns.a3,.bool be.1.a0,.bool be.1.a1],some 102⟩,⟨FK c,some 104⟩] [] w'∧Ad.le h a7∧Fr.Sim B F ay∧XS be.2 ay a7) ?_ ?_
     ·
      refine wp_block ?_
      refine A5 (fun cq a' w'=>∃ (x_v30:Int)(x_v31:Bg)(x_v32:σ)(ax:Fr)(b0:Array Value)(aq:Ad),a' = ⟨b0,[]⟩∧Kn 118 (Dn b_buses b_from_ b_r_ b_see a f) (G7 x_v30 at_) b0∧Ah ax aq (Dn b_buses b_from_ b_r_ b_see a f) [⟨[.int .i64 buses],none⟩,⟨JN b_buses b_from_ b_r_ b_see,none⟩,⟨DX l r_ p i k m q,none⟩,⟨[.func fn_see fa_see fc_see],none⟩,⟨[.int .i64 d.holds.a0,.int .i64 d.holds.a1,.int .i64 d.holds.a2,.int .i64 d.holds.a3,.int .i64 d.turns.a0,.int .i64 d.turns.a1,.int .i64 d.turns.a2,.int .i64 d.turns.a3,.bool x_v31.a0,.bool x_v31.a1],some 102⟩,⟨FK c,some 104⟩] [] w'∧Ad.le h aq∧Fr.Sim B F ax∧XS x_v32 ax aq∧cq≤n∧Bv cq see_ d c at_ buses r_ x_v30 x_v31 x_v32=some be) n ?_ ?_
      ·
       exact QY 0 ⟨d.spares,s,F,_,_,rfl,eh.kp,ae,Ad.le_refl _,Fr.Sim.refl B F,hs,Nat.le_refl _,b4⟩
      ·
       rintro bc _ ip ⟨x_v30,x_v31,x_v32,ax,b0,aq,rfl,ei,ba,ak,cn,b6,g4,u⟩
       clear b4
       obtain _ | bc:=bc
       ·
        rw [Bv] at u; cases u
       rw [Bv] at u
       replace hb_buses:=hb_buses.mono ak
       replace hc_from_:=hc_from_.mono ak
       replace ab:=ab.mono ak
       replace x:=x.mono ak
       replace ac:=ac.mono ak
       replace hb_r_:=hb_r_.mono ak
       replace hc_see:=hc_see.mono ak
       refine QT (Ab (Rk 0 1 ((tB 95 (decide (x_v30<2)))::(G7 x_v30 at_)) ei ba fun hr bq=>?_))
       refine wf (QT (wC (decide (x_v30<2)) bq (fun bj=>?_) (fun bj=>?_)))
       ·
        rw [bj,QW] at u
        refine wp_skip (QT (wp_block (QT (Ab (Rk 0 2 ((tI 12 x_v30)::(G7 x_v30 at_)) bq ba fun ht ej=>?_)))))
        refine wf (QT (Ab (Rk 0 7 ((tP 103 4 8)::(tB 102 (x_v30 == 1))::(tI 100 (IntKind.i64.wrap (at_-(IntKind.i64.wrap (2*buses)))))::(tI 12 x_v30)::(G7 x_v30 at_)) ej ba fun hu cb=>?_)))
        obtain⟨x104,ex104,u⟩:=A3 u
        obtain⟨fn,fs⟩:=Kx ex104
        refine Ln 7 (.one (.c (.ptr 4 (8+(IntKind.i64.wrap (at_-(IntKind.i64.wrap (2*buses))):Int).toNat*1)))) rfl (rfl) rfl (HZ (E:=4) cb rfl (by kernel_rfl) (by kernel_rfl) (by rfl) (by rfl) fn fs) (cb.put (by decide) _) fun cx (ek:Kn 118 (Dn b_buses b_from_ b_r_ b_see a f) ((tP 104 4 (8+(IntKind.i64.wrap (at_-(IntKind.i64.wrap (2*buses))):Int).toNat*1))::(tP 103 4 8)::(tB 102 (x_v30 == 1))::(tI 100 (IntKind.i64.wrap (at_-(IntKind.i64.wrap (2*buses)))))::(tI 12 x_v30)::(G7 x_v30 at_)) cx)=>?_
        obtain⟨af,c7,u⟩:=A3 u
        obtain⟨g7,ha,gh⟩:=Bg.setI_some c7
        refine wl fun K hK=>?_
        refine Iy 4 (8+(IntKind.i64.wrap (at_-(IntKind.i64.wrap (2*buses))):Int).toNat*1) (.c (.bool (x_v30 == 1))) (Ms d af) ek ba rfl rfl (by rfl) (by rfl) (by rfl) (by kernel_rfl) (by refine decide_eq_true ?_; show(8+(IntKind.i64.wrap (at_-(IntKind.i64.wrap (2*buses))):Int).toNat*1)+1≤10; omega) (LW (fun(y:Bool)=>([.bool y]:List SC)) 1 (fun _=>rfl) [.int .i64 d.holds.a0,.int .i64 d.holds.a1,.int .i64 d.holds.a2,.int .i64 d.holds.a3,.int .i64 d.turns.a0,.int .i64 d.turns.a1,.int .i64 d.turns.a2,.int .i64 d.turns.a3] [] x_v31.toL af.toL (IntKind.i64.wrap (at_-(IntKind.i64.wrap (2*buses))):Int).toNat (x_v30 == 1) gh (show(IntKind.i64.wrap (at_-(IntKind.i64.wrap (2*buses))):Int).toNat<2 by omega) rfl rfl rfl) fun iq el cj=>hK _ _ ?_
        have em:Kn 118 (Dn b_buses b_from_ b_r_ b_see a f) ((tI 12 x_v30)::(G7 x_v30 at_)) cx:=el.kp
        refine wf (Ab (Rk 0 11 ((tI 115 (IntKind.i64.wrap (at_+1)))::(tA 113 [.int .i64 (IntKind.i64.wrap (c.number+x_v30)),.int .i64 c.sum])::(tA 106 (Ms d af))::(105,.one (.c (.func (.func 85) #[] #[.pointer (some ⟨b_buses,0,none⟩),.pointer (some ⟨b_from_,0,none⟩),.pointer (some ⟨b_r_,0,none⟩),.pointer (some ⟨b_see,0,none⟩)])))::(G7 x_v30 at_)) em cj fun hw eo=>?_))
        obtain⟨x116,ex116,u⟩:=A3 u
        obtain⟨gr,e6,di,fv⟩:=cj.lendS hXS b6
        refine wl fun K hK=>?_
        refine Ga (.func (.func 85) #[] #[.pointer (some ⟨b_buses,0,none⟩),.pointer (some ⟨b_from_,0,none⟩),.pointer (some ⟨b_r_,0,none⟩),.pointer (some ⟨b_see,0,none⟩)]) [.agg (Ms d af),.agg [.int .i64 (IntKind.i64.wrap (c.number+x_v30)),.int .i64 c.sum],.c (.int .i64 (IntKind.i64.wrap (at_+1)))] _ eo rfl rfl (by decide) (by rfl) (by rfl) rfl ⟨85,_,_,rfl,fun _ _=>by kernel_rfl,ih bc (by omega) _ _ _ _ _ _ hXS see_ _ _ _ hy _ _ _ _ (Aw.mk d.holds d.turns af) _ ((Aa (Aa Ac (Aa Ac (Aa Ac Ac))) (Aa (Aa Ac (Aa Ac (Aa Ac Ac))) (Aa AS AS))):rep aq (Aw.mk d.holds d.turns af) _) (BN.mk (IntKind.i64.wrap (c.number+x_v30)) c.sum) _ ((Aa Ac Ac):rep aq (BN.mk (IntKind.i64.wrap (c.number+x_v30)) c.sum) _) (IntKind.i64.wrap (at_+1)) buses hb_buses hc_from_ r_ hb_r_ hc_see x_v32 di e6 _ ex116⟩ fun ia ir dh=>?_
        obtain⟨rfl,gx,gn,ce,f3,dj,ff⟩:=dh
        obtain⟨c3,f4,dk,ck⟩:=fv _ _ _ _ ce f3 dj ff
        have f5:=Fr.Sim.trans cn f4
        refine⟨.tup [],rfl,fun cy (ep:Kn 118 (Dn b_buses b_from_ b_r_ b_see a f) ((116,.tup [])::(tI 115 (IntKind.i64.wrap (at_+1)))::(tA 113 [.int .i64 (IntKind.i64.wrap (c.number+x_v30)),.int .i64 c.sum])::(tA 106 (Ms d af))::(105,.one (.c (.func (.func 85) #[] #[.pointer (some ⟨b_buses,0,none⟩),.pointer (some ⟨b_from_,0,none⟩),.pointer (some ⟨b_r_,0,none⟩),.pointer (some ⟨b_see,0,none⟩)])))::(G7 x_v30 at_)) cy)=>hK _ _ ?_⟩
        have er:Kn 118 (Dn b_buses b_from_ b_r_ b_see a f) (G7 x_v30 at_) cy:=ep.kp
        refine wf (Ab (Rk 0 2 [tI 94 (IntKind.i64.wrap (x_v30+1)),tP 8 5 0,tP 7 4 0,tI 2 at_,tP 3 0 0,tP 4 1 0] er ck fun hx es=>?_))
        refine wf ?_
        exact QY bc ⟨Nat.lt_succ_self _,QY (IntKind.i64.wrap (x_v30+1)) ⟨af,x116,c3,_,_,rfl,es.kp,ck,QU ak ce,f5,dk,(by omega),u⟩⟩
       ·
        rw [bj,QV] at u
        refine wp_exit ?_
        obtain rfl:=QZ u
        exact QY ax ⟨_,_,rfl,bq.kp,ba,ak,cn,b6⟩
     ·
      rintro _ iu ⟨ay,bz,a7,rfl,g0,fg,fa,f2,dg⟩
      obtain rfl:=QZ H
      exact Fs rfl ⟨rfl,a7,ay,fa,f2,dg,(fg.cutRw 0).cutPl 0 (by kernel_rfl)⟩
    ·
     rw [bh,QV] at H
     refine Ab (Rk 0 3 [tA 15 (FK c),tA 14 (Ip d),(13,.one (.c (.func fn_see fa_see fc_see)))] bo ae fun hz et=>?_)
     obtain⟨x16,ex16,H⟩:=A3 H
     obtain⟨gs,e7,dm,fw⟩:=ae.lendS hXS hs
     refine wl fun K hK=>?_
     refine Ga (.func fn_see fa_see fc_see) [.agg (Ip d),.agg (FK c)] _ et rfl rfl (by decide) (by rfl) (by rfl) rfl (hy _ _ _ _ d _ ((Aa (Aa Ac (Aa Ac (Aa Ac Ac))) (Aa (Aa Ac (Aa Ac (Aa Ac Ac))) (Aa AS AS))):rep h d _) c _ ((Aa Ac Ac):rep h c _) _ dm e7 ex16) fun ib iv dl=>?_
     obtain⟨rfl,dw,go,cf,f6,dp,fh⟩:=dl
     obtain⟨c4,f7,dq,fi⟩:=fw _ _ _ _ cf f6 dp fh
     have f8:=Fr.Sim.trans (Fr.Sim.refl B F) f7
     refine⟨.tup [],rfl,fun cz (eu:Kn 118 (Dn b_buses b_from_ b_r_ b_see a f) [(16,.tup []),tA 15 (FK c),tA 14 (Ip d),(13,.one (.c (.func fn_see fa_see fc_see)))] cz)=>hK _ _ ?_⟩
     have g1:Kn 118 (Dn b_buses b_from_ b_r_ b_see a f) [] cz:=eu.kp
     refine wf ?_
     obtain rfl:=QZ H
     exact Fs rfl ⟨rfl,dw,c4,cf,f8,dq,(fi.cutRw 0).cutPl 0 (by kernel_rfl)⟩
theorem FW (n:Nat) {F:Fr} {h:Ad} {w:World} {σ:Type} {XS:σ→Fr→Ad→Prop} {B:Nat→Prop} (hXS:Px XS B) (see_:σ→Aw→BN→Option σ) {fn_see:Fn} {fa_see fc_see:Array Value} (hy:Ou XS B (.func fn_see fa_see fc_see) see_) {b_buses b_from_ b_r_ b_see:Nat} (d:Aw) {cs_d:List Value} (hx_d:rep h d cs_d) (c:BN) {cs_c:List Value} (hx_c:rep h c cs_c) (at_:Int) (buses:Int) (hb_buses:Cv h b_buses buses) (hc_from_:A8 h b_from_ [.func (.func 85) #[] #[.pointer (some ⟨b_buses,0,none⟩),.pointer (some ⟨b_from_,0,none⟩),.pointer (some ⟨b_r_,0,none⟩),.pointer (some ⟨b_see,0,none⟩)]]) (r_:Ag) (hb_r_:Cv h b_r_ r_) (hc_see:A8 h b_see [.func fn_see fa_see fc_see]) (s:σ) (hs:XS s F h) (hm:Ah F h [] [] [] w) {r:σ} (H:control_Route_every_1 n see_ d c at_ buses r_ s=some r) :
  Calls Try.prog 85 #[.agg cs_d.toArray,.agg cs_c.toArray,.int .i64 at_,.pointer (some ⟨b_buses,0,none⟩),.pointer (some ⟨b_from_,0,none⟩),.pointer (some ⟨b_r_,0,none⟩),.pointer (some ⟨b_see,0,none⟩)] w (Po XS B F h r):=F6 n F h w σ XS B hXS see_ fn_see fa_see fc_see hy b_buses b_from_ b_r_ b_see d cs_d hx_d c cs_c hx_c at_ buses hb_buses hc_from_ r_ hb_r_ hc_see s hs hm r H
abbrev L8 (r_:Ag):List SC:=[.int .i64 ((r_.buses.length:Nat):Int)]
abbrev H0 (a b d f:Nat):AG:=[(a,0),(b,0),(d,0),(f,0)]
abbrev OW:List SC:=[.int .i64 0,.int .i64 0,.int .i64 0,.int .i64 0,.int .i64 0,.int .i64 0,.int .i64 0,.int .i64 0,.bool false,.bool false]
abbrev IY (g:Option Addr) (r_:Ag) (l:Nat) (j:Option Addr) (m:Nat) (k:Option Addr) (o:Nat):List SC:=[.slice g r_.legs.length l,.int .i64 r_.turn.lo,.int .i64 r_.turn.hi,.slice j r_.buses.length m,.slice k r_.spares.length o,.int .i64 r_.unit,.int .i64 r_.gap,.int .i64 r_.fr,.int .i64 r_.to_]
set_option maxRecDepth 100000 in
set_option maxHeartbeats 4000000 in
theorem E9 (n:Nat) {F:Fr} {h:Ad} {w:World} {σ:Type} {XS:σ→Fr→Ad→Prop} {B:Nat→Prop} (hXS:Px XS B) (see_:σ→Aw→BN→Option σ) {fn_see:Fn} {fa_see fc_see:Array Value} (hy:Ou XS B (.func fn_see fa_see fc_see) see_) (r_:Ag) {cs_r_:List Value} (hx_r_:rep h r_ cs_r_) (s:σ) (hs:XS s F h) (hm:Ah F h [] [] [] w) {r:σ} (H:CY n see_ r_ s=some r) :
  Calls Try.prog 51 #[.agg cs_r_.toArray,.func fn_see fa_see fc_see] w (Po XS B F h r):=by
 obtain⟨_,_,rfl,⟨g,l,rfl,ah⟩,⟨_,_,rfl,⟨_,_,rfl,rfl,rfl⟩,⟨_,_,rfl,⟨j,m,rfl,ai⟩,⟨_,_,rfl,⟨k,o,rfl,aj⟩,⟨_,_,rfl,rfl,⟨_,_,rfl,rfl,⟨_,_,rfl,rfl,rfl⟩⟩⟩⟩⟩⟩⟩:=hx_r_
 refine FN (e:=[]) 14 [.agg (IY g r_ l j m k o),.c (.func fn_see fa_see fc_see)] Try.func51 rfl rfl rfl rfl fun t hk=>?_
 unfold CY at H
 refine QT (Ab (wl fun K hK=>?_))
 refine wb (.agg (IY g r_ l j m k o)) hk hm fun a bu b6 (a6:Kn 14 [(a,0)] [tP 2 0 0,tA 0 (IY g r_ l j m k o),(1,.one (.c (.func fn_see fa_see fc_see)))] bu) bk=>hK _ _ ?_
 refine wl fun K hK=>?_
 refine wb (.c (.func fn_see fa_see fc_see)) a6 bk fun b ar b7 (a7:Kn 14 [(a,0),(b,0)] [tP 3 1 0,tP 2 0 0,tA 0 (IY g r_ l j m k o),(1,.one (.c (.func fn_see fa_see fc_see)))] ar) ap=>hK _ _ ?_
 have a8:Kn 14 [(a,0),(b,0)] [tP 3 1 0,tP 2 0 0] ar:=a7.kp
 refine wf (QT (Ab (Rk 0 3 [tI 8 ((r_.buses.length:Nat):Int),tP 3 1 0,tP 2 0 0] a8 ap fun b3 a9=>?_)))
 refine wl fun K hK=>?_
 refine wa [.int .i64 0] a9 ap fun d au b8 (ba:Kn 14 [(a,0),(b,0),(d,0)] [tP 4 2 0,tI 8 ((r_.buses.length:Nat):Int),tP 3 1 0,tP 2 0 0] au) bl=>hK _ _ ?_
 refine wl fun K hK=>?_
 refine Ea 2 0 (.c (.int .i64 ((r_.buses.length:Nat):Int))) (L8 r_) ba bl fun b9 bb bm=>hK _ _ ?_
 have bc:Kn 14 [(a,0),(b,0),(d,0)] [tP 4 2 0,tP 3 1 0,tP 2 0 0] au:=bb.kp
 refine wf (QT (Ab (wl fun K hK=>?_)))
 refine wa [.nilfunc] bc bm fun f bv ak (bd:Kn 14 (H0 a b d f) [tP 5 3 0,tP 4 2 0,tP 3 1 0,tP 2 0 0] bv) bn=>hK _ _ ?_
 refine wf (QT (Ab ?_))
 obtain⟨v,q,am,ad⟩:=bn.settlePlc (i:=2) rfl
 replace hs:=hXS.up hs q
 replace ad:Ah F v (H0 a b d f) [⟨IY g r_ l j m k o,some 43⟩,⟨[.func fn_see fa_see fc_see],some 107⟩,⟨L8 r_,none⟩,⟨[.nilfunc],some 144⟩] [] ak:=ad
 have aa:Cv v d (((r_.buses.length:Nat):Int):Int):=Cv.of (e:=(H0 a b d f)) (cs:=(L8 r_)) (Ac:rep v (((r_.buses.length:Nat):Int):Int) _) rfl am
 have b0:A8 v d [.int .i64 ((r_.buses.length:Nat):Int)]:=A8.of (e:=[(a,0),(b,0),(d,0),(f,0)]) (cs:=[.int .i64 ((r_.buses.length:Nat):Int)]) rfl am
 obtain⟨x,p,an,ae⟩:=ad.settlePlc (i:=0) rfl
 replace ah:=ah.mono (QU q p)
 replace ai:=ai.mono (QU q p)
 replace aj:=aj.mono (QU q p)
 replace hs:=hXS.up hs p
 replace ae:Ah F x (H0 a b d f) [⟨IY g r_ l j m k o,none⟩,⟨[.func fn_see fa_see fc_see],some 107⟩,⟨L8 r_,none⟩,⟨[.nilfunc],some 144⟩] [] ak:=ae
 have ab:Cv x a (r_:Ag):=Cv.of (e:=(H0 a b d f)) (cs:=(IY g r_ l j m k o)) ((Aa (Ae ah) (Aa (Aa Ac Ac) (Aa (Ae ai) (Aa (Ae aj) (Aa Ac (Aa Ac (Aa Ac Ac))))))):rep x (r_:Ag) _) rfl an
 have b1:A8 x a [.slice g r_.legs.length l,.int .i64 r_.turn.lo,.int .i64 r_.turn.hi,.slice j r_.buses.length m,.slice k r_.spares.length o,.int .i64 r_.unit,.int .i64 r_.gap,.int .i64 r_.fr,.int .i64 r_.to_]:=A8.of (e:=[(a,0),(b,0),(d,0),(f,0)]) (cs:=[.slice g r_.legs.length l,.int .i64 r_.turn.lo,.int .i64 r_.turn.hi,.slice j r_.buses.length m,.slice k r_.spares.length o,.int .i64 r_.unit,.int .i64 r_.gap,.int .i64 r_.fr,.int .i64 r_.to_]) rfl an
 obtain⟨al,z,a4,af⟩:=ae.settlePlc (i:=1) rfl
 replace hs:=hXS.up hs z
 replace af:Ah F al (H0 a b d f) [⟨IY g r_ l j m k o,none⟩,⟨[.func fn_see fa_see fc_see],none⟩,⟨L8 r_,none⟩,⟨[.nilfunc],some 144⟩] [] ak:=af
 have ac:A8 al b [.func fn_see fa_see fc_see]:=A8.of (e:=[(a,0),(b,0),(d,0),(f,0)]) (cs:=[.func fn_see fa_see fc_see]) rfl a4
 refine Fw 0 #[] #[.pointer (some ⟨d,0,none⟩),.pointer (some ⟨f,0,none⟩),.pointer (some ⟨a,0,none⟩),.pointer (some ⟨b,0,none⟩)] bd rfl rfl (rfl) rfl (by decide) (by rfl) (by rfl) (by rfl) (by rfl) fun av (be:Kn 14 (H0 a b d f) [(9,.one (.c (.func (.func 85) #[] #[.pointer (some ⟨d,0,none⟩),.pointer (some ⟨f,0,none⟩),.pointer (some ⟨a,0,none⟩),.pointer (some ⟨b,0,none⟩)]))),tP 5 3 0,tP 4 2 0,tP 3 1 0,tP 2 0 0] av)=>?_
 refine wl fun K hK=>?_
 refine Ea 3 0 (.c (.func (.func 85) #[] #[.pointer (some ⟨d,0,none⟩),.pointer (some ⟨f,0,none⟩),.pointer (some ⟨a,0,none⟩),.pointer (some ⟨b,0,none⟩)])) [.func (.func 85) #[] #[.pointer (some ⟨d,0,none⟩),.pointer (some ⟨f,0,none⟩),.pointer (some ⟨a,0,none⟩),.pointer (some ⟨b,0,none⟩)]] be af fun bw bf aq=>hK _ _ ?_
 have bg:Kn 14 (H0 a b d f) [tP 5 3 0] av:=bf.kp
 refine wf (Ab (Rk 0 3 [tA 12 [.int .i64 0,.int .i64 0],tA 11 OW,(10,.one (.c (.func (.func 85) #[] #[.pointer (some ⟨d,0,none⟩),.pointer (some ⟨f,0,none⟩),.pointer (some ⟨a,0,none⟩),.pointer (some ⟨b,0,none⟩)])))] bg aq fun b4 bh=>?_))
 obtain⟨y,u,a5,ag⟩:=aq.settlePlc (i:=3) rfl
 replace aa:=aa.mono (QU (QU p z) u)
 replace ab:=ab.mono (QU z u)
 replace ac:=ac.mono u
 replace hs:=hXS.up hs u
 replace ag:Ah F y (H0 a b d f) [⟨IY g r_ l j m k o,none⟩,⟨[.func fn_see fa_see fc_see],none⟩,⟨L8 r_,none⟩,⟨[.func (.func 85) #[] #[.pointer (some ⟨d,0,none⟩),.pointer (some ⟨f,0,none⟩),.pointer (some ⟨a,0,none⟩),.pointer (some ⟨b,0,none⟩)]],none⟩] [] bw:=ag
 have a3:A8 y f [.func (.func 85) #[] #[.pointer (some ⟨d,0,none⟩),.pointer (some ⟨f,0,none⟩),.pointer (some ⟨a,0,none⟩),.pointer (some ⟨b,0,none⟩)]]:=A8.of (e:=[(a,0),(b,0),(d,0),(f,0)]) (cs:=[.func (.func 85) #[] #[.pointer (some ⟨d,0,none⟩),.pointer (some ⟨f,0,none⟩),.pointer (some ⟨a,0,none⟩),.pointer (some ⟨b,0,none⟩)]]) rfl a5
 obtain⟨x13,ex13,H⟩:=A3 H
 obtain⟨bz,bj,az,bq⟩:=ag.lendS hXS hs
 refine wl fun K hK=>?_
 refine Ga (.func (.func 85) #[] #[.pointer (some ⟨d,0,none⟩),.pointer (some ⟨f,0,none⟩),.pointer (some ⟨a,0,none⟩),.pointer (some ⟨b,0,none⟩)]) [.agg OW,.agg [.int .i64 0,.int .i64 0],.c (.int .i64 0)] _ bh rfl rfl (by decide) (by rfl) (by rfl) rfl ⟨85,_,_,rfl,fun _ _=>by kernel_rfl,FW n hXS see_ hy (Aw.mk (Bb.mk 0 0 0 0) (Bb.mk 0 0 0 0) (Bg.mk false false)) ((Aa (Aa Ac (Aa Ac (Aa Ac Ac))) (Aa (Aa Ac (Aa Ac (Aa Ac Ac))) (Aa AS AS))):rep y (Aw.mk (Bb.mk 0 0 0 0) (Bb.mk 0 0 0 0) (Bg.mk false false)) _) (BN.mk 0 0) ((Aa Ac Ac):rep y (BN.mk 0 0) _) 0 ((r_.buses.length:Nat):Int) aa a3 r_ ab ac s az bj ex13⟩ fun b5 ca ay=>?_
 obtain⟨rfl,a2,bx,ao,br,a0,bo⟩:=ay
 obtain⟨ax,bs,a1,bp⟩:=bq _ _ _ _ ao br a0 bo
 have bt:=Fr.Sim.trans (Fr.Sim.refl B F) bs
 refine⟨.tup [],rfl,fun aw (bi:Kn 14 (H0 a b d f) [(13,.tup []),tA 12 [.int .i64 0,.int .i64 0],tA 11 OW,(10,.one (.c (.func (.func 85) #[] #[.pointer (some ⟨d,0,none⟩),.pointer (some ⟨f,0,none⟩),.pointer (some ⟨a,0,none⟩),.pointer (some ⟨b,0,none⟩)])))] aw)=>hK _ _ ?_⟩
 have b2:Kn 14 (H0 a b d f) [] aw:=bi.kp
 refine wf ?_
 obtain rfl:=QZ H
 exact Fs rfl ⟨rfl,a2,ax,QU q (QU p (QU z (QU u ao))),bt,a1,(bp.cutRw 0).cutPl 0 (by kernel_rfl)⟩
end Go.Proofs.Ytokchpjijlebiaa
