/- Each call computes its plain function. -/
import Derived.Test.YtokchpjijlebiaaProg
import Derived.Test.YtokchpjijlebiaaBGP0
import Derived.Test.YtokchpjijlebiaaBGWP
set_option linter.all false
namespace Go.Proofs.Ytokchpjijlebiaa
open Go Go.RowKit
open Rep (rep)
open KRep (kv)
open VRep (rv)
abbrev FD (c:Bb):List SC:=[.int .i64 c.number,.int .i64 c.sum]
abbrev O6 (x61:Cy):List SC:=[.int .i64 x61.stop,.int .i64 x61.tm.lo,.int .i64 x61.tm.hi]
abbrev Dv (b_buses b_from_ b_r_ b_see a b:Nat):Ba:=[(b_buses,0),(b_from_,0),(b_r_,0),(b_see,0),(a,0),(b,0)]
abbrev TR (c:Bb) (x_v10:Int):List SC:=[.int .i64 (IntKind.i64.wrap (c.number+(if 1<x_v10 then 1 else x_v10))),.int .i64 (IntKind.i64.wrap (c.sum+x_v10))]
abbrev LV (b_buses b_from_ b_r_ b_see a b ad ag:Nat) (at_ buses:Int):Ba:=[(b_buses,0),(b_from_,0),(b_r_,0),(b_see,0),(a,0),(b,0),(ad,ag+(IntKind.i64.wrap (at_-buses):Int).toNat*3)]
abbrev TS (c:Bb) (x_v20:Int):List SC:=[.int .i64 (IntKind.i64.wrap (c.number+(if 1<(IntKind.i64.wrap (x_v20+1)) then 1 else(IntKind.i64.wrap (x_v20+1))))),.int .i64 c.sum]
abbrev Hw (b_buses b_from_ b_r_ b_see:Nat):List SC:=[.func (.func 85) #[] #[.pointer (some ⟨b_buses,0,none⟩),.pointer (some ⟨b_from_,0,none⟩),.pointer (some ⟨b_r_,0,none⟩),.pointer (some ⟨b_see,0,none⟩)]]
abbrev Rv (u:AI) (d:Ap):List SC:=[.int .i64 u.a0,.int .i64 u.a1,.int .i64 u.a2,.int .i64 u.a3,.int .i64 d.turns.a0,.int .i64 d.turns.a1,.int .i64 d.turns.a2,.int .i64 d.turns.a3,.bool d.spares.a0,.bool d.spares.a1]
abbrev TU (d:Ap) (x_v21:AI):List SC:=[.int .i64 d.holds.a0,.int .i64 d.holds.a1,.int .i64 d.holds.a2,.int .i64 d.holds.a3,.int .i64 x_v21.a0,.int .i64 x_v21.a1,.int .i64 x_v21.a2,.int .i64 x_v21.a3,.bool d.spares.a0,.bool d.spares.a1]
abbrev O7 (d:Ap) (q:AI):List SC:=[.int .i64 d.holds.a0,.int .i64 d.holds.a1,.int .i64 d.holds.a2,.int .i64 d.holds.a3,.int .i64 q.a0,.int .i64 q.a1,.int .i64 q.a2,.int .i64 q.a3,.bool d.spares.a0,.bool d.spares.a1]
abbrev O8 (d:Ap) (ac:AT):List SC:=[.int .i64 d.holds.a0,.int .i64 d.holds.a1,.int .i64 d.holds.a2,.int .i64 d.holds.a3,.int .i64 d.turns.a0,.int .i64 d.turns.a1,.int .i64 d.turns.a2,.int .i64 d.turns.a3,.bool ac.a0,.bool ac.a1]
abbrev Df (i:Option Addr) (r_:Af) (l:Nat) (f:Option Addr) (g:Nat) (k:Option Addr) (m:Nat):List SC:=[.slice i r_.legs.length l,.int .i64 r_.turn.lo,.int .i64 r_.turn.hi,.slice f r_.buses.length g,.slice k r_.spares.length m,.int .i64 r_.unit,.int .i64 r_.gap,.int .i64 r_.fr,.int .i64 r_.to_]
abbrev I8 (d:Ap):List SC:=[.int .i64 d.holds.a0,.int .i64 d.holds.a1,.int .i64 d.holds.a2,.int .i64 d.holds.a3,.int .i64 d.turns.a0,.int .i64 d.turns.a1,.int .i64 d.turns.a2,.int .i64 d.turns.a3,.bool d.spares.a0,.bool d.spares.a1]
abbrev Fa (x_v20 at_:Int):TM:=[tI 11 x_v20,tP 8 5 0,tP 7 4 0,tI 2 at_,tP 3 0 0,tP 4 1 0,tP 5 2 0]
abbrev I9 (x_v30 at_:Int):TM:=[tI 94 x_v30,tP 8 5 0,tP 7 4 0,tI 2 at_,tP 3 0 0,tP 4 1 0]
abbrev IA (x_v10 at_:Int):TM:=[tI 21 x_v10,tP 8 5 0,tP 7 4 0,tI 2 at_,tP 4 1 0]
abbrev O9 (at_:Int):TM:=[tI 2 at_,tP 3 0 0,tP 4 1 0,tP 5 2 0,tP 6 3 0]
abbrev Sd (at_:Int):TM:=[tP 8 5 0,tP 7 4 0,tI 2 at_,tP 3 0 0,tP 4 1 0,tP 5 2 0]
set_option maxRecDepth 100000 in
set_option maxHeartbeats 4000000 in
theorem Hj (n:Nat):∀ (F:Fr)(h:Ae)(w:World)(σ:Type)(XS:σ→Fr→Ae→Prop)(B:Nat→Prop)(hXS:U1 XS B)(see_:σ→Ap→Bb→Option σ)(fn_see:Fn)(fa_see fc_see:Array Value)(hy:Tt XS B (.func fn_see fa_see fc_see) see_)(b_buses b_from_ b_r_ b_see:Nat)(d:Ap)(cs_d:List Value)(hx_d:rep h d cs_d)(c:Bb)(cs_c:List Value)(hx_c:rep h c cs_c)(at_:Int)(buses:Int)(hb_buses:CO h b_buses buses)(hc_from_:AD h b_from_ [.func (.func 85) #[] #[.pointer (some ⟨b_buses,0,none⟩),.pointer (some ⟨b_from_,0,none⟩),.pointer (some ⟨b_r_,0,none⟩),.pointer (some ⟨b_see,0,none⟩)]])(r_:Af)(hb_r_:CO h b_r_ r_)(hc_see:AD h b_see [.func fn_see fa_see fc_see])(s:σ)(hs:XS s F h)(hm:Ah F h [] [] [] w)(r:σ)(H:control_Route_every_1 n see_ d c at_ buses r_ s=some r),
  Calls Try.prog 85 #[.agg cs_d.toArray,.agg cs_c.toArray,.int .i64 at_,.pointer (some ⟨b_buses,0,none⟩),.pointer (some ⟨b_from_,0,none⟩),.pointer (some ⟨b_r_,0,none⟩),.pointer (some ⟨b_see,0,none⟩)] w (Up XS B F h r):=by
 induction n using Nat.strongRecOn with
 | _ n ih =>
  intro F h w σ XS B hXS see_ fn_see fa_see fc_see hy b_buses b_from_ b_r_ b_see d cs_d hx_d c cs_c hx_c at_ buses hb_buses hc_from_ r_ hb_r_ hc_see s hs hm r H
  obtain _ | n:=n
  ·
   rw [control_Route_every_1] at H; cases H
  obtain⟨_,_,rfl,⟨_,_,rfl,rfl,⟨_,_,rfl,rfl,⟨_,_,rfl,rfl,rfl⟩⟩⟩,⟨_,_,rfl,⟨_,_,rfl,rfl,⟨_,_,rfl,rfl,⟨_,_,rfl,rfl,rfl⟩⟩⟩,⟨_,_,rfl,rfl,rfl⟩⟩⟩:=hx_d
  obtain⟨_,_,rfl,rfl,rfl⟩:=hx_c
  obtain⟨_,hx_buses,hc_buses⟩:=id hb_buses
  obtain rfl:=hx_buses
  obtain⟨_,hx_r_,hc_r_⟩:=id hb_r_
  obtain⟨_,_,rfl,⟨i,l,rfl,aa⟩,⟨_,_,rfl,⟨_,_,rfl,rfl,rfl⟩,⟨_,_,rfl,⟨f,g,rfl,z⟩,⟨_,_,rfl,⟨k,m,rfl,ab⟩,⟨_,_,rfl,rfl,⟨_,_,rfl,rfl,⟨_,_,rfl,rfl,rfl⟩⟩⟩⟩⟩⟩⟩:=hx_r_
  refine H5 (e:=[(b_buses,0),(b_from_,0),(b_r_,0),(b_see,0)]) 118 [.agg (I8 d),.agg (FD c),.c (.int .i64 at_),.c (.ptr 0 0),.c (.ptr 1 0),.c (.ptr 2 0),.c (.ptr 3 0)] Try.func85 rfl rfl rfl rfl fun t hk=>?_
  replace hm:=hm.addPlc (o:=0) (cs:=[.int .i64 buses]) (fun j c hj=>by rw [Nat.zero_add]; exact hc_buses j _ (Al hj)) rfl (by kernel_rfl) (by kernel_rfl)
  replace hm:=hm.addPlc (o:=0) (cs:=[.func (.func 85) #[] #[.pointer (some ⟨b_buses,0,none⟩),.pointer (some ⟨b_from_,0,none⟩),.pointer (some ⟨b_r_,0,none⟩),.pointer (some ⟨b_see,0,none⟩)]]) (fun j c hj=>by rw [Nat.zero_add]; exact hc_from_ j _ (Al hj)) rfl (by kernel_rfl) (by kernel_rfl)
  replace hm:=hm.addPlc (o:=0) (cs:=[.slice i r_.legs.length l,.int .i64 r_.turn.lo,.int .i64 r_.turn.hi,.slice f r_.buses.length g,.slice k r_.spares.length m,.int .i64 r_.unit,.int .i64 r_.gap,.int .i64 r_.fr,.int .i64 r_.to_]) (fun j c hj=>by rw [Nat.zero_add]; exact hc_r_ j _ (Al hj)) rfl (by kernel_rfl) (by kernel_rfl)
  replace hm:=hm.addPlc (o:=0) (cs:=[.func fn_see fa_see fc_see]) (fun j c hj=>by rw [Nat.zero_add]; exact hc_see j _ (Al hj)) rfl (by kernel_rfl) (by kernel_rfl)
  replace hm:Ah F h [(b_buses,0),(b_from_,0),(b_r_,0),(b_see,0)] [⟨[.int .i64 buses],none⟩,⟨Hw b_buses b_from_ b_r_ b_see,none⟩,⟨Df i r_ l f g k m,none⟩,⟨[.func fn_see fa_see fc_see],none⟩] [] w:=hm
  rw [control_Route_every_1] at H
  refine XT (Aa (wl fun K hK=>?_))
  refine wb (.agg (I8 d)) hk hm fun a gi gl (d1:Kn 118 [(b_buses,0),(b_from_,0),(b_r_,0),(b_see,0),(a,0)] ((tP 7 4 0)::(tA 0 (I8 d))::(tA 1 (FD c))::(O9 at_)) gi) (fb:Ah F h [(b_buses,0),(b_from_,0),(b_r_,0),(b_see,0),(a,0)] [⟨[.int .i64 buses],none⟩,⟨Hw b_buses b_from_ b_r_ b_see,none⟩,⟨Df i r_ l f g k m,none⟩,⟨[.func fn_see fa_see fc_see],none⟩,⟨I8 d,some 102⟩] [] gl)=>hK _ _ ?_
  refine wl fun K hK=>?_
  refine wb (.agg (FD c)) d1 fb fun b ct go (ea:Kn 118 (Dv b_buses b_from_ b_r_ b_see a b) ((tP 8 5 0)::(tP 7 4 0)::(tA 0 (I8 d))::(tA 1 (FD c))::(O9 at_)) ct) (af:Ah F h (Dv b_buses b_from_ b_r_ b_see a b) [⟨[.int .i64 buses],none⟩,⟨Hw b_buses b_from_ b_r_ b_see,none⟩,⟨Df i r_ l f g k m,none⟩,⟨[.func fn_see fa_see fc_see],none⟩,⟨I8 d,some 102⟩,⟨FD c,some 104⟩] [] go)=>hK _ _ ?_
  have ee:Kn 118 (Dv b_buses b_from_ b_r_ b_see a b) ((tP 8 5 0)::(tP 7 4 0)::(O9 at_)) ct:=ea.kp
  refine wf (wp_block (XT (Aa (Rk 0 4 ((tB 17 (decide (at_<buses)))::(tP 8 5 0)::(tP 7 4 0)::(O9 at_)) ee af fun hw bq=>?_))))
  refine wf (wC (decide (at_<buses)) bq (fun bj=>?_) (fun bj=>?_))
  ·
   rw [bj,XW] at H
   refine XT (Aa (Rk 0 1 [tI 21 0,tP 8 5 0,tP 7 4 0,tI 2 at_,tP 4 1 0] bq af fun h1 em=>?_))
   refine wf ?_
   obtain⟨aw,b6,H⟩:=Aq H
   refine Av (fun a' w'=>∃ (az:Fr)(b2:Array Value)(a7:Ae),a' = ⟨b2,[]⟩∧Kn 118 (Dv b_buses b_from_ b_r_ b_see a b) [] b2∧Ah az a7 (Dv b_buses b_from_ b_r_ b_see a b) [⟨[.int .i64 buses],none⟩,⟨Hw b_buses b_from_ b_r_ b_see,none⟩,⟨Df i r_ l f g k m,none⟩,⟨[.func fn_see fa_see fc_see],none⟩,⟨[.int .i64 aw.1.a0,.int .i64 aw.1.a1,.int .i64 aw.1.a2,.int .i64 aw.1.a3,.int .i64 d.turns.a0,.int .i64 d.turns.a1,.int .i64 d.turns.a2,.int .i64 d.turns.a3,.bool d.spares.a0,.bool d.spares.a1],some 102⟩,⟨FD c,some 104⟩] [] w'∧Ae.le h a7∧Fr.Sim B F az∧XS aw.2 az a7) ?_ ?_
   ·
    refine wp_block ?_
    refine Ar (fun cq a' w'=>∃ (x_v10:Int)(x_v11:AI)(x_v12:σ)(au:Fr)(b3:Array Value)(ao:Ae),a' = ⟨b3,[]⟩∧Kn 118 (Dv b_buses b_from_ b_r_ b_see a b) (IA x_v10 at_) b3∧Ah au ao (Dv b_buses b_from_ b_r_ b_see a b) [⟨[.int .i64 buses],none⟩,⟨Hw b_buses b_from_ b_r_ b_see,none⟩,⟨Df i r_ l f g k m,none⟩,⟨[.func fn_see fa_see fc_see],none⟩,⟨[.int .i64 x_v11.a0,.int .i64 x_v11.a1,.int .i64 x_v11.a2,.int .i64 x_v11.a3,.int .i64 d.turns.a0,.int .i64 d.turns.a1,.int .i64 d.turns.a2,.int .i64 d.turns.a3,.bool d.spares.a0,.bool d.spares.a1],some 102⟩,⟨FD c,some 104⟩] [] w'∧Ae.le h ao∧Fr.Sim B F au∧XS x_v12 au ao∧cq≤n∧AQ cq see_ d c at_ buses r_ x_v10 x_v11 x_v12=some aw) n ?_ ?_
    ·
     exact XY 0 ⟨d.holds,s,F,_,_,rfl,em.kp,af,Ae.le_refl _,Fr.Sim.refl B F,hs,Nat.le_refl _,b6⟩
    ·
     rintro bc _ iw ⟨x_v10,x_v11,x_v12,au,b3,ao,rfl,eu,ba,ak,cn,b8,ha,x⟩
     clear b6
     obtain _ | bc:=bc
     ·
      rw [AQ] at x; cases x
     rw [AQ] at x
     replace hb_buses:=hb_buses.mono ak
     replace hc_from_:=hc_from_.mono ak
     replace aa:=aa.mono ak
     replace z:=z.mono ak
     replace ab:=ab.mono ak
     replace hb_r_:=hb_r_.mono ak
     replace hc_see:=hc_see.mono ak
     refine XT (Aa (Rk 0 1 ((tB 22 (decide (x_v10<3)))::(IA x_v10 at_)) eu ba fun h5 bs=>?_))
     refine wf (XT (wC (decide (x_v10<3)) bs (fun bl=>?_) (fun bl=>?_)))
     ·
      rw [bl,XW] at x
      refine wp_skip (XT (wp_block (XT (Aa (Rk 0 2 ((tI 10 x_v10)::(IA x_v10 at_)) bs ba fun h6 ev=>?_)))))
      refine wf (XT (Aa (Rk 0 3 ((tP 26 4 0)::(tI 25 x_v10)::(tI 24 at_)::(tI 10 x_v10)::(IA x_v10 at_)) ev ba fun h7 cb=>?_)))
      obtain⟨x27,ex27,x⟩:=Aq x
      obtain⟨fn,fs⟩:=NW ex27
      refine Pu 3 (.one (.c (.ptr 4 (0+(at_:Int).toNat*1)))) rfl (rfl) rfl (KR (E:=3) cb rfl (by kernel_rfl) (by kernel_rfl) (by rfl) (by rfl) fn fs) (cb.put (by decide) _) fun cz (ew:Kn 118 (Dv b_buses b_from_ b_r_ b_see a b) ((tP 27 4 (0+(at_:Int).toNat*1))::(tP 26 4 0)::(tI 25 x_v10)::(tI 24 at_)::(tI 10 x_v10)::(IA x_v10 at_)) cz)=>?_
      obtain⟨u,c7,x⟩:=Aq x
      obtain⟨hd,hg,gh⟩:=AI.setI_some c7
      refine wl fun K hK=>?_
      refine Lv 4 (0+(at_:Int).toNat*1) (.c (.int .i64 x_v10)) (Rv u d) ew ba rfl rfl (by rfl) (by rfl) (by rfl) (by kernel_rfl) (by refine decide_eq_true ?_; show(0+(at_:Int).toNat*1)+1≤10; omega) (Qi (fun(y:Int)=>([.int .i64 y]:List SC)) 1 (fun _=>rfl) [] [.int .i64 d.turns.a0,.int .i64 d.turns.a1,.int .i64 d.turns.a2,.int .i64 d.turns.a3,.bool d.spares.a0,.bool d.spares.a1] x_v11.toL u.toL (at_:Int).toNat x_v10 gh (show(at_:Int).toNat<4 by omega) rfl rfl rfl) fun gq ex (ck:Ah au ao (Dv b_buses b_from_ b_r_ b_see a b) [⟨[.int .i64 buses],none⟩,⟨Hw b_buses b_from_ b_r_ b_see,none⟩,⟨Df i r_ l f g k m,none⟩,⟨[.func fn_see fa_see fc_see],none⟩,⟨Rv u d,some 102⟩,⟨FD c,some 104⟩] [] gq)=>hK _ _ ?_
      have ey:Kn 118 (Dv b_buses b_from_ b_r_ b_see a b) ((tI 10 x_v10)::(IA x_v10 at_)) cz:=ex.kp
      refine wf (Aa (Rk 0 14 ((tI 41 (IntKind.i64.wrap (at_+1)))::(tA 39 (TR c x_v10))::(tA 29 (Rv u d))::(28,.one (.c (.func (.func 85) #[] #[.pointer (some ⟨b_buses,0,none⟩),.pointer (some ⟨b_from_,0,none⟩),.pointer (some ⟨b_r_,0,none⟩),.pointer (some ⟨b_see,0,none⟩)])))::(IA x_v10 at_)) ey ck fun h8 ez=>?_))
      obtain⟨x42,ex42,x⟩:=Aq x
      obtain⟨gz,e7,ds,fw⟩:=ck.lendS hXS b8
      refine wl fun K hK=>?_
      refine HV (.func (.func 85) #[] #[.pointer (some ⟨b_buses,0,none⟩),.pointer (some ⟨b_from_,0,none⟩),.pointer (some ⟨b_r_,0,none⟩),.pointer (some ⟨b_see,0,none⟩)]) [.agg (Rv u d),.agg (TR c x_v10),.c (.int .i64 (IntKind.i64.wrap (at_+1)))] _ ez rfl rfl (by decide) (by rfl) (by rfl) rfl ⟨85,_,_,rfl,fun _ _=>by kernel_rfl,ih bc (by omega) _ _ _ _ _ _ hXS see_ _ _ _ hy _ _ _ _ (Ap.mk u d.turns d.spares) _ ((Ab (Ab Ac (Ab Ac (Ab Ac Ac))) (Ab (Ab Ac (Ab Ac (Ab Ac Ac))) (Ab Bo Bo))):rep ao (Ap.mk u d.turns d.spares) _) (Bb.mk (IntKind.i64.wrap (c.number+(if 1<x_v10 then 1 else x_v10))) (IntKind.i64.wrap (c.sum+x_v10))) _ ((Ab Ac Ac):rep ao (Bb.mk (IntKind.i64.wrap (c.number+(if 1<x_v10 then 1 else x_v10))) (IntKind.i64.wrap (c.sum+x_v10))) _) (IntKind.i64.wrap (at_+1)) buses hb_buses hc_from_ r_ hb_r_ hc_see x_v12 ds e7 _ ex42⟩ fun ik ix dr=>?_
      obtain⟨rfl,g3,gv,cf,f9,dt,fi⟩:=dr
      obtain⟨c4,ga,du,cl⟩:=fw _ _ _ _ cf f9 dt fi
      have gb:=Fr.Sim.trans cn ga
      refine⟨.tup [],rfl,fun c0 (e0:Kn 118 (Dv b_buses b_from_ b_r_ b_see a b) ((42,.tup [])::(tI 41 (IntKind.i64.wrap (at_+1)))::(tA 39 (TR c x_v10))::(tA 29 (Rv u d))::(28,.one (.c (.func (.func 85) #[] #[.pointer (some ⟨b_buses,0,none⟩),.pointer (some ⟨b_from_,0,none⟩),.pointer (some ⟨b_r_,0,none⟩),.pointer (some ⟨b_see,0,none⟩)])))::(IA x_v10 at_)) c0)=>hK _ _ ?_⟩
      have e1:Kn 118 (Dv b_buses b_from_ b_r_ b_see a b) (IA x_v10 at_) c0:=e0.kp
      refine wf (Aa (Rk 0 2 [tI 21 (IntKind.i64.wrap (x_v10+1)),tP 8 5 0,tP 7 4 0,tI 2 at_,tP 4 1 0] e1 cl fun h9 e2=>?_))
      refine wf ?_
      exact XY bc ⟨Nat.lt_succ_self _,XY (IntKind.i64.wrap (x_v10+1)) ⟨u,x42,c4,_,_,rfl,e2.kp,cl,XU ak cf,gb,du,(by omega),x⟩⟩
     ·
      rw [bl,XV] at x
      refine wp_exit ?_
      obtain rfl:=XZ x
      exact XY au ⟨_,_,rfl,bs.kp,ba,ak,cn,b8⟩
   ·
    rintro _ iy ⟨az,b2,a7,rfl,g7,fj,fa,f8,dq⟩
    obtain rfl:=XZ H
    exact GC rfl ⟨rfl,a7,az,fa,f8,dq,(fj.cutRw 0).cutPl 0 (by kernel_rfl)⟩
  ·
   rw [bj,XV] at H
   refine XT (Aa (Rk 0 5 ((tB 44 (decide (at_<(IntKind.i64.wrap (2*buses)))))::(tP 8 5 0)::(tP 7 4 0)::(O9 at_)) bq af fun ia bt=>?_))
   refine wf (wC (decide (at_<(IntKind.i64.wrap (2*buses)))) bt (fun bm=>?_) (fun bm=>?_))
   ·
    rw [bm,XW] at H
    refine XT (Aa (Rk 0 1 ((tI 11 (-1))::(Sd at_)) bt af fun ib e3=>?_))
    refine wf ?_
    obtain⟨av,b4,H⟩:=Aq H
    refine Av (fun a' w'=>∃ (ax:Fr)(bx:Array Value)(a4:Ae),a' = ⟨bx,[]⟩∧Kn 118 (Dv b_buses b_from_ b_r_ b_see a b) [] bx∧Ah ax a4 (Dv b_buses b_from_ b_r_ b_see a b) [⟨[.int .i64 buses],none⟩,⟨Hw b_buses b_from_ b_r_ b_see,none⟩,⟨Df i r_ l f g k m,none⟩,⟨[.func fn_see fa_see fc_see],none⟩,⟨[.int .i64 d.holds.a0,.int .i64 d.holds.a1,.int .i64 d.holds.a2,.int .i64 d.holds.a3,.int .i64 av.1.a0,.int .i64 av.1.a1,.int .i64 av.1.a2,.int .i64 av.1.a3,.bool d.spares.a0,.bool d.spares.a1],some 102⟩,⟨FD c,some 104⟩] [] w'∧Ae.le h a4∧Fr.Sim B F ax∧XS av.2 ax a4) ?_ ?_
    ·
     refine wp_block ?_
     refine Ar (fun co a' w'=>∃ (x_v20:Int)(x_v21:AI)(x_v22:σ)(al:Fr)(bz:Array Value)(a5:Ae),a' = ⟨bz,[]⟩∧Kn 118 (Dv b_buses b_from_ b_r_ b_see a b) (Fa x_v20 at_) bz∧Ah al a5 (Dv b_buses b_from_ b_r_ b_see a b) [⟨[.int .i64 buses],none⟩,⟨Hw b_buses b_from_ b_r_ b_see,none⟩,⟨Df i r_ l f g k m,none⟩,⟨[.func fn_see fa_see fc_see],none⟩,⟨TU d x_v21,some 102⟩,⟨FD c,some 104⟩] [] w'∧Ae.le h a5∧Fr.Sim B F al∧XS x_v22 al a5∧co≤n∧AB co see_ d c at_ buses r_ x_v20 x_v21 x_v22=some av) n ?_ ?_
     ·
      exact XY (-1) ⟨d.turns,s,F,_,_,rfl,e3.kp,af,Ae.le_refl _,Fr.Sim.refl B F,hs,Nat.le_refl _,b4⟩
     ·
      rintro aq _ il ⟨x_v20,x_v21,x_v22,al,bz,a5,rfl,dy,bu,ah,bw,am,g8,p⟩
      clear b4
      obtain _ | aq:=aq
      ·
       rw [AB] at p; cases p
      rw [AB] at p
      replace aa:=aa.mono ah
      replace z:=z.mono ah
      replace ab:=ab.mono ah
      refine XT (XT (Aa (Rk 0 2 ((tA 50 (Df i r_ l f g k m))::(tI 49 x_v20)::(Fa x_v20 at_)) dy bu fun hh dz=>?_)))
      obtain⟨x51,ex51,p⟩:=Aq p
      refine wl fun K hK=>?_
      refine wc [.agg (Df i r_ l f g k m)] dz bu (DF aq bu.has r_ ((Ab (Ad aa) (Ab (Ab Ac Ac) (Ab (Ad z) (Ab (Ad ab) (Ab Ac (Ab Ac (Ab Ac Ac))))))):rep a5 r_ _) ex51) fun ic be gm c8 ae ap=>?_
      replace hb_buses:=hb_buses.mono (XU ah ae)
      replace hc_from_:=hc_from_.mono (XU ah ae)
      replace aa:=aa.mono ae
      replace z:=z.mono ae
      replace ab:=ab.mono ae
      replace hb_r_:=hb_r_.mono (XU ah ae)
      replace hc_see:=hc_see.mono (XU ah ae)
      replace am:=hXS.up am ae
      obtain rfl:=c8
      refine⟨.one (.c (.int .i64 x51)),rfl,fun gj (d0:Kn 118 (Dv b_buses b_from_ b_r_ b_see a b) ((tI 51 x51)::(tA 50 (Df i r_ l f g k m))::(tI 49 x_v20)::(Fa x_v20 at_)) gj)=>hK _ _ ?_⟩
      refine Rk 3 1 ((tB 52 (decide (x_v20<x51)))::(Fa x_v20 at_)) d0 ap fun hl bn=>?_
      refine wf (wC (decide (x_v20<x51)) bn (fun bg=>?_) (fun bg=>?_))
      ·
       rw [bg,XW] at p
       refine wp_skip (XT (wp_block (XT (An (by kernel_rfl) ?_))))
       replace ap:=ap.drew
       refine Ao [] (Dv b_buses b_from_ b_r_ b_see a b) [⟨[.int .i64 buses],none⟩,⟨Hw b_buses b_from_ b_r_ b_see,none⟩,⟨Df i r_ l f g k m,none⟩,⟨[.func fn_see fa_see fc_see],none⟩,⟨TU d x_v21,some 102⟩,⟨FD c,some 104⟩] ?_
       refine Dr [0,1,2,3,4,5] (dn 5) ((tI 60 (IntKind.i64.wrap (at_-buses)))::(tS 57 f r_.buses.length g)::(tA 55 (Df i r_ l f g k m))::(Fa x_v20 at_)) bn ap fun hn d2=>?_
       obtain⟨x61,ex61,p⟩:=Aq p
       obtain⟨fk,fo,gd⟩:=Ai ex61
       obtain⟨ad,ag,g0,dw,gc,dx⟩:=z.get (by decide) gd
       obtain⟨_,_,rfl,rfl,⟨_,_,rfl,rfl,rfl⟩⟩:=gc
       have bv:Ah al be (LV b_buses b_from_ b_r_ b_see a b ad ag at_ buses) [⟨[.int .i64 buses],none⟩,⟨Hw b_buses b_from_ b_r_ b_see,none⟩,⟨Df i r_ l f g k m,none⟩,⟨[.func fn_see fa_see fc_see],none⟩,⟨TU d x_v21,some 102⟩,⟨FD c,some 104⟩,⟨O6 x61,none⟩] [] (World.drew gm):=ap.addPlc (cs:=(O6 x61)) (fun j c hj=>dx j _ (Al hj)) rfl (by kernel_rfl) (by kernel_rfl)
       refine Ax 6 (IntKind.i64.wrap (at_-buses)) (O6 x61) (fun _ _ _ _ _ h=>h) rfl rfl (rfl) rfl (by decide) (by kernel_rfl) (by kernel_rfl) d2 ap.plOk (by rfl) (by rfl) (by rfl) dw (by rfl) fk fo (by kernel_rfl) fun gk (d3:Kn 118 (LV b_buses b_from_ b_r_ b_see a b ad ag at_ buses) ((tP 61 6 0)::(tI 60 (IntKind.i64.wrap (at_-buses)))::(tS 57 f r_.buses.length g)::(tA 55 (Df i r_ l f g k m))::(Fa x_v20 at_)) gk)=>?_
       refine Dr [7,8] (dn 8) ((tI 63 x_v20)::(tA 62 (O6 x61))::(tA 55 (Df i r_ l f g k m))::(Fa x_v20 at_)) d3 bv fun ho d4=>?_
       obtain⟨x64,ex64,p⟩:=Aq p
       refine Dl 9 fun K hK=>?_
       refine wc [.agg (Df i r_ l f g k m),.agg (O6 x61),.c (.int .i64 x_v20)] d4 bv (FA aq bv.has r_ ((Ab (Ad aa) (Ab (Ab Ac Ac) (Ab (Ad z) (Ab (Ad ab) (Ab Ac (Ab Ac (Ab Ac Ac))))))):rep be r_ _) x61 ((Ab Ac (Ab Ac Ac)):rep be x61 _) x_v20 ex64) fun ie bf im c9 ai a8=>?_
       replace hb_buses:=hb_buses.mono ai
       replace hc_from_:=hc_from_.mono ai
       replace aa:=aa.mono ai
       replace z:=z.mono ai
       replace ab:=ab.mono ai
       replace hb_r_:=hb_r_.mono ai
       replace hc_see:=hc_see.mono ai
       replace am:=hXS.up am ai
       obtain rfl:=c9
       refine⟨.one (.c (.bool x64)),rfl,fun cr (d5:Kn 118 (LV b_buses b_from_ b_r_ b_see a b ad ag at_ buses) ((tB 64 x64)::(tI 63 x_v20)::(tA 62 (O6 x61))::(tA 55 (Df i r_ l f g k m))::(Fa x_v20 at_)) cr)=>hK _ _ a8.plOk ?_⟩
       have bo:Kn 118 (LV b_buses b_from_ b_r_ b_see a b ad ag at_ buses) ((tB 64 x64)::(Fa x_v20 at_)) cr:=d5.kp
       refine Ay (by kernel_rfl) (wC (x64) bo (fun bh=>?_) (fun bh=>?_))
       ·
        rw [bh,XW] at p
        refine XT (Aa (Rk 0 5 ((tP 69 4 4)::(tI 68 x_v20)::(tI 67 (IntKind.i64.wrap (at_-buses)))::(Fa x_v20 at_)) bo a8 fun hp b9=>?_))
        obtain⟨x70,ex70,p⟩:=Aq p
        obtain⟨fl,fp⟩:=NW ex70
        refine Pu 5 (.one (.c (.ptr 4 (4+(IntKind.i64.wrap (at_-buses):Int).toNat*1)))) rfl (rfl) rfl (KR (E:=3) b9 rfl (by kernel_rfl) (by kernel_rfl) (by rfl) (by rfl) fl fp) (b9.put (by decide) _) fun cu (d6:Kn 118 (LV b_buses b_from_ b_r_ b_see a b ad ag at_ buses) ((tP 70 4 (4+(IntKind.i64.wrap (at_-buses):Int).toNat*1))::(tP 69 4 4)::(tI 68 x_v20)::(tI 67 (IntKind.i64.wrap (at_-buses)))::(Fa x_v20 at_)) cu)=>?_
        obtain⟨q,c5,p⟩:=Aq p
        obtain⟨hb,he,gf⟩:=AI.setI_some c5
        refine wl fun K hK=>?_
        refine Lv 4 (4+(IntKind.i64.wrap (at_-buses):Int).toNat*1) (.c (.int .i64 x_v20)) (O7 d q) d6 a8 rfl rfl (by rfl) (by rfl) (by rfl) (by kernel_rfl) (by refine decide_eq_true ?_; show(4+(IntKind.i64.wrap (at_-buses):Int).toNat*1)+1≤10; omega) (Qi (fun(y:Int)=>([.int .i64 y]:List SC)) 1 (fun _=>rfl) [.int .i64 d.holds.a0,.int .i64 d.holds.a1,.int .i64 d.holds.a2,.int .i64 d.holds.a3] [.bool d.spares.a0,.bool d.spares.a1] x_v21.toL q.toL (IntKind.i64.wrap (at_-buses):Int).toNat x_v20 gf (show(IntKind.i64.wrap (at_-buses):Int).toNat<4 by omega) rfl rfl rfl) fun gn d7 (cg:Ah al bf (LV b_buses b_from_ b_r_ b_see a b ad ag at_ buses) [⟨[.int .i64 buses],none⟩,⟨Hw b_buses b_from_ b_r_ b_see,none⟩,⟨Df i r_ l f g k m,none⟩,⟨[.func fn_see fa_see fc_see],none⟩,⟨O7 d q,some 102⟩,⟨FD c,some 104⟩,⟨O6 x61,none⟩] [] gn)=>hK _ _ ?_
        have d8:Kn 118 (LV b_buses b_from_ b_r_ b_see a b ad ag at_ buses) (Fa x_v20 at_) cu:=d7.kp
        refine wf (Aa (Rk 0 13 ((tI 83 (IntKind.i64.wrap (at_+1)))::(tA 81 (TS c x_v20))::(tA 72 (O7 d q))::(71,.one (.c (.func (.func 85) #[] #[.pointer (some ⟨b_buses,0,none⟩),.pointer (some ⟨b_from_,0,none⟩),.pointer (some ⟨b_r_,0,none⟩),.pointer (some ⟨b_see,0,none⟩)])))::(Fa x_v20 at_)) d8 cg fun hq d9=>?_))
        obtain⟨x84,ex84,p⟩:=Aq p
        obtain⟨gw,e4,dc,ft⟩:=cg.lendS hXS am
        refine wl fun K hK=>?_
        refine HV (.func (.func 85) #[] #[.pointer (some ⟨b_buses,0,none⟩),.pointer (some ⟨b_from_,0,none⟩),.pointer (some ⟨b_r_,0,none⟩),.pointer (some ⟨b_see,0,none⟩)]) [.agg (O7 d q),.agg (TS c x_v20),.c (.int .i64 (IntKind.i64.wrap (at_+1)))] _ d9 rfl rfl (by decide) (by rfl) (by rfl) rfl ⟨85,_,_,rfl,fun _ _=>by kernel_rfl,ih aq (by omega) _ _ _ _ _ _ hXS see_ _ _ _ hy _ _ _ _ (Ap.mk d.holds q d.spares) _ ((Ab (Ab Ac (Ab Ac (Ab Ac Ac))) (Ab (Ab Ac (Ab Ac (Ab Ac Ac))) (Ab Bo Bo))):rep bf (Ap.mk d.holds q d.spares) _) (Bb.mk (IntKind.i64.wrap (c.number+(if 1<(IntKind.i64.wrap (x_v20+1)) then 1 else(IntKind.i64.wrap (x_v20+1))))) c.sum) _ ((Ab Ac Ac):rep bf (Bb.mk (IntKind.i64.wrap (c.number+(if 1<(IntKind.i64.wrap (x_v20+1)) then 1 else(IntKind.i64.wrap (x_v20+1))))) c.sum) _) (IntKind.i64.wrap (at_+1)) buses hb_buses hc_from_ r_ hb_r_ hc_see x_v22 dc e4 _ ex84⟩ fun ig io db=>?_
        obtain⟨rfl,g1,gr,cc,fy,dd,fc⟩:=db
        obtain⟨c1,fz,de,ch⟩:=ft _ _ _ _ cc fy dd fc
        have f0:=Fr.Sim.trans bw fz
        refine⟨.tup [],rfl,fun cv (eb:Kn 118 (LV b_buses b_from_ b_r_ b_see a b ad ag at_ buses) ((84,.tup [])::(tI 83 (IntKind.i64.wrap (at_+1)))::(tA 81 (TS c x_v20))::(tA 72 (O7 d q))::(71,.one (.c (.func (.func 85) #[] #[.pointer (some ⟨b_buses,0,none⟩),.pointer (some ⟨b_from_,0,none⟩),.pointer (some ⟨b_r_,0,none⟩),.pointer (some ⟨b_see,0,none⟩)])))::(Fa x_v20 at_)) cv)=>hK _ _ ?_⟩
        have ec:Kn 118 (LV b_buses b_from_ b_r_ b_see a b ad ag at_ buses) (Fa x_v20 at_) cv:=eb.kp
        refine wf (Aa (Rk 0 3 ((tI 11 (IntKind.i64.wrap (x_v20+1)))::(Sd at_)) ec ch fun hr ed=>?_))
        refine wf ?_
        exact XY aq ⟨Nat.lt_succ_self _,XY (IntKind.i64.wrap (x_v20+1)) ⟨q,x84,c1,_,_,rfl,(ed.keep [11,8,7,2,3,4,5] (by rfl)).cut 6 (by kernel_rfl),ch.cutPl 6 (by kernel_rfl),XU ah (XU ae (XU ai cc)),f0,de,(by omega),p⟩⟩
       ·
        rw [bh,XV] at p
        refine wp_skip (Aa (Rk 0 3 ((tI 11 (IntKind.i64.wrap (x_v20+1)))::(Sd at_)) bo a8 fun ht ef=>?_))
        refine wf ?_
        exact XY aq ⟨Nat.lt_succ_self _,XY (IntKind.i64.wrap (x_v20+1)) ⟨x_v21,x_v22,al,_,_,rfl,(ef.keep [11,8,7,2,3,4,5] (by rfl)).cut 6 (by kernel_rfl),a8.cutPl 6 (by kernel_rfl),XU ah (XU ae ai),bw,am,(by omega),p⟩⟩
      ·
       rw [bg,XV] at p
       refine wp_exit ?_
       obtain rfl:=XZ p
       exact XY al ⟨_,_,rfl,bn.kp,ap,XU ah ae,bw,am⟩
    ·
     rintro _ ip ⟨ax,bx,a4,rfl,g4,fd,e8,fx,da⟩
     obtain rfl:=XZ H
     exact GC rfl ⟨rfl,a4,ax,e8,fx,da,(fd.cutRw 0).cutPl 0 (by kernel_rfl)⟩
   ·
    rw [bm,XV] at H
    refine XT (Aa (Rk 0 9 [tB 85 (decide (at_<(IntKind.i64.wrap ((IntKind.i64.wrap (2*buses))+((r_.spares.length:Nat):Int))))),tP 8 5 0,tP 7 4 0,tI 2 at_,tP 3 0 0,tP 4 1 0,tP 6 3 0] bt af fun hu bp=>?_))
    refine wf (wC (decide (at_<(IntKind.i64.wrap ((IntKind.i64.wrap (2*buses))+((r_.spares.length:Nat):Int))))) bp (fun bi=>?_) (fun bi=>?_))
    ·
     rw [bi,XW] at H
     refine XT (Aa (Rk 0 1 [tI 94 0,tP 8 5 0,tP 7 4 0,tI 2 at_,tP 3 0 0,tP 4 1 0] bp af fun hv eg=>?_))
     refine wf ?_
     obtain⟨bd,b5,H⟩:=Aq H
     refine Av (fun a' w'=>∃ (ay:Fr)(b0:Array Value)(a6:Ae),a' = ⟨b0,[]⟩∧Kn 118 (Dv b_buses b_from_ b_r_ b_see a b) [] b0∧Ah ay a6 (Dv b_buses b_from_ b_r_ b_see a b) [⟨[.int .i64 buses],none⟩,⟨Hw b_buses b_from_ b_r_ b_see,none⟩,⟨Df i r_ l f g k m,none⟩,⟨[.func fn_see fa_see fc_see],none⟩,⟨[.int .i64 d.holds.a0,.int .i64 d.holds.a1,.int .i64 d.holds.a2,.int .i64 d.holds.a3,.int .i64 d.turns.a0,.int .i64 d.turns.a1,.int .i64 d.turns.a2,.int .i64 d.turns.a3,.bool bd.1.a0,.bool bd.1.a1],some 102⟩,⟨FD c,some 104⟩] [] w'∧Ae.le h a6∧Fr.Sim B F ay∧XS bd.2 ay a6) ?_ ?_
     ·
      refine wp_block ?_
      refine Ar (fun cp a' w'=>∃ (x_v30:Int)(x_v31:AT)(x_v32:σ)(ar:Fr)(b1:Array Value)(an:Ae),a' = ⟨b1,[]⟩∧Kn 118 (Dv b_buses b_from_ b_r_ b_see a b) (I9 x_v30 at_) b1∧Ah ar an (Dv b_buses b_from_ b_r_ b_see a b) [⟨[.int .i64 buses],none⟩,⟨Hw b_buses b_from_ b_r_ b_see,none⟩,⟨Df i r_ l f g k m,none⟩,⟨[.func fn_see fa_see fc_see],none⟩,⟨[.int .i64 d.holds.a0,.int .i64 d.holds.a1,.int .i64 d.holds.a2,.int .i64 d.holds.a3,.int .i64 d.turns.a0,.int .i64 d.turns.a1,.int .i64 d.turns.a2,.int .i64 d.turns.a3,.bool x_v31.a0,.bool x_v31.a1],some 102⟩,⟨FD c,some 104⟩] [] w'∧Ae.le h an∧Fr.Sim B F ar∧XS x_v32 ar an∧cp≤n∧AR cp see_ d c at_ buses r_ x_v30 x_v31 x_v32=some bd) n ?_ ?_
      ·
       exact XY 0 ⟨d.spares,s,F,_,_,rfl,eg.kp,af,Ae.le_refl _,Fr.Sim.refl B F,hs,Nat.le_refl _,b5⟩
      ·
       rintro bb _ iq ⟨x_v30,x_v31,x_v32,ar,b1,an,rfl,eh,a9,aj,cm,b7,g9,v⟩
       clear b5
       obtain _ | bb:=bb
       ·
        rw [AR] at v; cases v
       rw [AR] at v
       replace hb_buses:=hb_buses.mono aj
       replace hc_from_:=hc_from_.mono aj
       replace aa:=aa.mono aj
       replace z:=z.mono aj
       replace ab:=ab.mono aj
       replace hb_r_:=hb_r_.mono aj
       replace hc_see:=hc_see.mono aj
       refine XT (Aa (Rk 0 1 ((tB 95 (decide (x_v30<2)))::(I9 x_v30 at_)) eh a9 fun hx br=>?_))
       refine wf (XT (wC (decide (x_v30<2)) br (fun bk=>?_) (fun bk=>?_)))
       ·
        rw [bk,XW] at v
        refine wp_skip (XT (wp_block (XT (Aa (Rk 0 2 ((tI 12 x_v30)::(I9 x_v30 at_)) br a9 fun hz ei=>?_)))))
        refine wf (XT (Aa (Rk 0 7 ((tP 103 4 8)::(tB 102 (x_v30 == 1))::(tI 100 (IntKind.i64.wrap (at_-(IntKind.i64.wrap (2*buses)))))::(tI 12 x_v30)::(I9 x_v30 at_)) ei a9 fun h0 ca=>?_)))
        obtain⟨x104,ex104,v⟩:=Aq v
        obtain⟨fm,fq⟩:=NW ex104
        refine Pu 7 (.one (.c (.ptr 4 (8+(IntKind.i64.wrap (at_-(IntKind.i64.wrap (2*buses))):Int).toNat*1)))) rfl (rfl) rfl (KR (E:=4) ca rfl (by kernel_rfl) (by kernel_rfl) (by rfl) (by rfl) fm fq) (ca.put (by decide) _) fun cw (ej:Kn 118 (Dv b_buses b_from_ b_r_ b_see a b) ((tP 104 4 (8+(IntKind.i64.wrap (at_-(IntKind.i64.wrap (2*buses))):Int).toNat*1))::(tP 103 4 8)::(tB 102 (x_v30 == 1))::(tI 100 (IntKind.i64.wrap (at_-(IntKind.i64.wrap (2*buses)))))::(tI 12 x_v30)::(I9 x_v30 at_)) cw)=>?_
        obtain⟨ac,c6,v⟩:=Aq v
        obtain⟨hc,hf,gg⟩:=AT.setI_some c6
        refine wl fun K hK=>?_
        refine Lv 4 (8+(IntKind.i64.wrap (at_-(IntKind.i64.wrap (2*buses))):Int).toNat*1) (.c (.bool (x_v30 == 1))) (O8 d ac) ej a9 rfl rfl (by rfl) (by rfl) (by rfl) (by kernel_rfl) (by refine decide_eq_true ?_; show(8+(IntKind.i64.wrap (at_-(IntKind.i64.wrap (2*buses))):Int).toNat*1)+1≤10; omega) (Qi (fun(y:Bool)=>([.bool y]:List SC)) 1 (fun _=>rfl) [.int .i64 d.holds.a0,.int .i64 d.holds.a1,.int .i64 d.holds.a2,.int .i64 d.holds.a3,.int .i64 d.turns.a0,.int .i64 d.turns.a1,.int .i64 d.turns.a2,.int .i64 d.turns.a3] [] x_v31.toL ac.toL (IntKind.i64.wrap (at_-(IntKind.i64.wrap (2*buses))):Int).toNat (x_v30 == 1) gg (show(IntKind.i64.wrap (at_-(IntKind.i64.wrap (2*buses))):Int).toNat<2 by omega) rfl rfl rfl) fun gp ek (ci:Ah ar an (Dv b_buses b_from_ b_r_ b_see a b) [⟨[.int .i64 buses],none⟩,⟨Hw b_buses b_from_ b_r_ b_see,none⟩,⟨Df i r_ l f g k m,none⟩,⟨[.func fn_see fa_see fc_see],none⟩,⟨O8 d ac,some 102⟩,⟨FD c,some 104⟩] [] gp)=>hK _ _ ?_
        have el:Kn 118 (Dv b_buses b_from_ b_r_ b_see a b) ((tI 12 x_v30)::(I9 x_v30 at_)) cw:=ek.kp
        refine wf (Aa (Rk 0 11 ((tI 115 (IntKind.i64.wrap (at_+1)))::(tA 113 [.int .i64 (IntKind.i64.wrap (c.number+x_v30)),.int .i64 c.sum])::(tA 106 (O8 d ac))::(105,.one (.c (.func (.func 85) #[] #[.pointer (some ⟨b_buses,0,none⟩),.pointer (some ⟨b_from_,0,none⟩),.pointer (some ⟨b_r_,0,none⟩),.pointer (some ⟨b_see,0,none⟩)])))::(I9 x_v30 at_)) el ci fun h2 en=>?_))
        obtain⟨x116,ex116,v⟩:=Aq v
        obtain⟨gx,e5,dh,fu⟩:=ci.lendS hXS b7
        refine wl fun K hK=>?_
        refine HV (.func (.func 85) #[] #[.pointer (some ⟨b_buses,0,none⟩),.pointer (some ⟨b_from_,0,none⟩),.pointer (some ⟨b_r_,0,none⟩),.pointer (some ⟨b_see,0,none⟩)]) [.agg (O8 d ac),.agg [.int .i64 (IntKind.i64.wrap (c.number+x_v30)),.int .i64 c.sum],.c (.int .i64 (IntKind.i64.wrap (at_+1)))] _ en rfl rfl (by decide) (by rfl) (by rfl) rfl ⟨85,_,_,rfl,fun _ _=>by kernel_rfl,ih bb (by omega) _ _ _ _ _ _ hXS see_ _ _ _ hy _ _ _ _ (Ap.mk d.holds d.turns ac) _ ((Ab (Ab Ac (Ab Ac (Ab Ac Ac))) (Ab (Ab Ac (Ab Ac (Ab Ac Ac))) (Ab Bo Bo))):rep an (Ap.mk d.holds d.turns ac) _) (Bb.mk (IntKind.i64.wrap (c.number+x_v30)) c.sum) _ ((Ab Ac Ac):rep an (Bb.mk (IntKind.i64.wrap (c.number+x_v30)) c.sum) _) (IntKind.i64.wrap (at_+1)) buses hb_buses hc_from_ r_ hb_r_ hc_see x_v32 dh e5 _ ex116⟩ fun ii ir dg=>?_
        obtain⟨rfl,g2,gs,cd,f2,di,fe⟩:=dg
        obtain⟨c2,f3,dj,cj⟩:=fu _ _ _ _ cd f2 di fe
        have f4:=Fr.Sim.trans cm f3
        refine⟨.tup [],rfl,fun cx (eo:Kn 118 (Dv b_buses b_from_ b_r_ b_see a b) ((116,.tup [])::(tI 115 (IntKind.i64.wrap (at_+1)))::(tA 113 [.int .i64 (IntKind.i64.wrap (c.number+x_v30)),.int .i64 c.sum])::(tA 106 (O8 d ac))::(105,.one (.c (.func (.func 85) #[] #[.pointer (some ⟨b_buses,0,none⟩),.pointer (some ⟨b_from_,0,none⟩),.pointer (some ⟨b_r_,0,none⟩),.pointer (some ⟨b_see,0,none⟩)])))::(I9 x_v30 at_)) cx)=>hK _ _ ?_⟩
        have ep:Kn 118 (Dv b_buses b_from_ b_r_ b_see a b) (I9 x_v30 at_) cx:=eo.kp
        refine wf (Aa (Rk 0 2 [tI 94 (IntKind.i64.wrap (x_v30+1)),tP 8 5 0,tP 7 4 0,tI 2 at_,tP 3 0 0,tP 4 1 0] ep cj fun h3 er=>?_))
        refine wf ?_
        exact XY bb ⟨Nat.lt_succ_self _,XY (IntKind.i64.wrap (x_v30+1)) ⟨ac,x116,c2,_,_,rfl,er.kp,cj,XU aj cd,f4,dj,(by omega),v⟩⟩
       ·
        rw [bk,XV] at v
        refine wp_exit ?_
        obtain rfl:=XZ v
        exact XY ar ⟨_,_,rfl,br.kp,a9,aj,cm,b7⟩
     ·
      rintro _ iu ⟨ay,b0,a6,rfl,g5,ff,e9,f1,df⟩
      obtain rfl:=XZ H
      exact GC rfl ⟨rfl,a6,ay,e9,f1,df,(ff.cutRw 0).cutPl 0 (by kernel_rfl)⟩
    ·
     rw [bi,XV] at H
     refine Aa (Rk 0 3 [tA 15 (FD c),tA 14 (I8 d),(13,.one (.c (.func fn_see fa_see fc_see)))] bp af fun h4 es=>?_)
     obtain⟨x16,ex16,H⟩:=Aq H
     obtain⟨gy,e6,dl,fv⟩:=af.lendS hXS hs
     refine wl fun K hK=>?_
     refine HV (.func fn_see fa_see fc_see) [.agg (I8 d),.agg (FD c)] _ es rfl rfl (by decide) (by rfl) (by rfl) rfl (hy _ _ _ _ d _ ((Ab (Ab Ac (Ab Ac (Ab Ac Ac))) (Ab (Ab Ac (Ab Ac (Ab Ac Ac))) (Ab Bo Bo))):rep h d _) c _ ((Ab Ac Ac):rep h c _) _ dl e6 ex16) fun ij iv dk=>?_
     obtain⟨rfl,dv,gu,ce,f5,dm,fg⟩:=dk
     obtain⟨c3,f6,dp,fh⟩:=fv _ _ _ _ ce f5 dm fg
     have f7:=Fr.Sim.trans (Fr.Sim.refl B F) f6
     refine⟨.tup [],rfl,fun cy (et:Kn 118 (Dv b_buses b_from_ b_r_ b_see a b) [(16,.tup []),tA 15 (FD c),tA 14 (I8 d),(13,.one (.c (.func fn_see fa_see fc_see)))] cy)=>hK _ _ ?_⟩
     have g6:Kn 118 (Dv b_buses b_from_ b_r_ b_see a b) [] cy:=et.kp
     refine wf ?_
     obtain rfl:=XZ H
     exact GC rfl ⟨rfl,dv,c3,ce,f7,dp,(fh.cutRw 0).cutPl 0 (by kernel_rfl)⟩
theorem HG (n:Nat) {F:Fr} {h:Ae} {w:World} {σ:Type} {XS:σ→Fr→Ae→Prop} {B:Nat→Prop} (hXS:U1 XS B) (see_:σ→Ap→Bb→Option σ) {fn_see:Fn} {fa_see fc_see:Array Value} (hy:Tt XS B (.func fn_see fa_see fc_see) see_) {b_buses b_from_ b_r_ b_see:Nat} (d:Ap) {cs_d:List Value} (hx_d:rep h d cs_d) (c:Bb) {cs_c:List Value} (hx_c:rep h c cs_c) (at_:Int) (buses:Int) (hb_buses:CO h b_buses buses) (hc_from_:AD h b_from_ [.func (.func 85) #[] #[.pointer (some ⟨b_buses,0,none⟩),.pointer (some ⟨b_from_,0,none⟩),.pointer (some ⟨b_r_,0,none⟩),.pointer (some ⟨b_see,0,none⟩)]]) (r_:Af) (hb_r_:CO h b_r_ r_) (hc_see:AD h b_see [.func fn_see fa_see fc_see]) (s:σ) (hs:XS s F h) (hm:Ah F h [] [] [] w) {r:σ} (H:control_Route_every_1 n see_ d c at_ buses r_ s=some r) :
  Calls Try.prog 85 #[.agg cs_d.toArray,.agg cs_c.toArray,.int .i64 at_,.pointer (some ⟨b_buses,0,none⟩),.pointer (some ⟨b_from_,0,none⟩),.pointer (some ⟨b_r_,0,none⟩),.pointer (some ⟨b_see,0,none⟩)] w (Up XS B F h r):=Hj n F h w σ XS B hXS see_ fn_see fa_see fc_see hy b_buses b_from_ b_r_ b_see d cs_d hx_d c cs_c hx_c at_ buses hb_buses hc_from_ r_ hb_r_ hc_see s hs hm r H
abbrev LW (r_:Af):List SC:=[.int .i64 ((r_.buses.length:Nat):Int)]
abbrev Ia (a b d f:Nat):Ba:=[(a,0),(b,0),(d,0),(f,0)]
abbrev TV:List SC:=[.int .i64 0,.int .i64 0,.int .i64 0,.int .i64 0,.int .i64 0,.int .i64 0,.int .i64 0,.int .i64 0,.bool false,.bool false]
abbrev TW (d f a b:Nat):List SC:=[.func (.func 85) #[] #[.pointer (some ⟨d,0,none⟩),.pointer (some ⟨f,0,none⟩),.pointer (some ⟨a,0,none⟩),.pointer (some ⟨b,0,none⟩)]]
abbrev Hf (g:Option Addr) (r_:Af) (l:Nat) (j:Option Addr) (m:Nat) (k:Option Addr) (o:Nat):List SC:=[.slice g r_.legs.length l,.int .i64 r_.turn.lo,.int .i64 r_.turn.hi,.slice j r_.buses.length m,.slice k r_.spares.length o,.int .i64 r_.unit,.int .i64 r_.gap,.int .i64 r_.fr,.int .i64 r_.to_]
set_option maxRecDepth 100000 in
set_option maxHeartbeats 4000000 in
theorem FE (n:Nat) {F:Fr} {h:Ae} {w:World} {σ:Type} {XS:σ→Fr→Ae→Prop} {B:Nat→Prop} (hXS:U1 XS B) (see_:σ→Ap→Bb→Option σ) {fn_see:Fn} {fa_see fc_see:Array Value} (hy:Tt XS B (.func fn_see fa_see fc_see) see_) (r_:Af) {cs_r_:List Value} (hx_r_:rep h r_ cs_r_) (s:σ) (hs:XS s F h) (hm:Ah F h [] [] [] w) {r:σ} (H:B2 n see_ r_ s=some r) :
  Calls Try.prog 51 #[.agg cs_r_.toArray,.func fn_see fa_see fc_see] w (Up XS B F h r):=by
 obtain⟨_,_,rfl,⟨g,l,rfl,aj⟩,⟨_,_,rfl,⟨_,_,rfl,rfl,rfl⟩,⟨_,_,rfl,⟨j,m,rfl,ak⟩,⟨_,_,rfl,⟨k,o,rfl,al⟩,⟨_,_,rfl,rfl,⟨_,_,rfl,rfl,⟨_,_,rfl,rfl,rfl⟩⟩⟩⟩⟩⟩⟩:=hx_r_
 refine H5 (e:=[]) 14 [.agg (Hf g r_ l j m k o),.c (.func fn_see fa_see fc_see)] Try.func51 rfl rfl rfl rfl fun t hk=>?_
 unfold B2 at H
 refine XT (Aa (wl fun K hK=>?_))
 refine wb (.agg (Hf g r_ l j m k o)) hk hm fun a bv bx (a7:Kn 14 [(a,0)] [tP 2 0 0,tA 0 (Hf g r_ l j m k o),(1,.one (.c (.func fn_see fa_see fc_see)))] bv) (bl:Ah F h [(a,0)] [⟨Hf g r_ l j m k o,some 43⟩] [] bx)=>hK _ _ ?_
 refine wl fun K hK=>?_
 refine wb (.c (.func fn_see fa_see fc_see)) a7 bl fun b ar bz (a8:Kn 14 [(a,0),(b,0)] [tP 3 1 0,tP 2 0 0,tA 0 (Hf g r_ l j m k o),(1,.one (.c (.func fn_see fa_see fc_see)))] ar) (ap:Ah F h [(a,0),(b,0)] [⟨Hf g r_ l j m k o,some 43⟩,⟨[.func fn_see fa_see fc_see],some 107⟩] [] bz)=>hK _ _ ?_
 have a9:Kn 14 [(a,0),(b,0)] [tP 3 1 0,tP 2 0 0] ar:=a8.kp
 refine wf (XT (Aa (Rk 0 3 [tI 8 ((r_.buses.length:Nat):Int),tP 3 1 0,tP 2 0 0] a9 ap fun b7 ba=>?_)))
 refine wl fun K hK=>?_
 refine wa [.int .i64 0] ba ap fun d au b0 (bb:Kn 14 [(a,0),(b,0),(d,0)] [tP 4 2 0,tI 8 ((r_.buses.length:Nat):Int),tP 3 1 0,tP 2 0 0] au) (bm:Ah F h [(a,0),(b,0),(d,0)] [⟨Hf g r_ l j m k o,some 43⟩,⟨[.func fn_see fa_see fc_see],some 107⟩,⟨[.int .i64 0],some 3⟩] [] b0)=>hK _ _ ?_
 refine wl fun K hK=>?_
 refine G2 2 0 (.c (.int .i64 ((r_.buses.length:Nat):Int))) (LW r_) bb bm fun b1 bc (bn:Ah F h [(a,0),(b,0),(d,0)] [⟨Hf g r_ l j m k o,some 43⟩,⟨[.func fn_see fa_see fc_see],some 107⟩,⟨LW r_,some 3⟩] [] b1)=>hK _ _ ?_
 have bd:Kn 14 [(a,0),(b,0),(d,0)] [tP 4 2 0,tP 3 1 0,tP 2 0 0] au:=bc.kp
 refine wf (XT (Aa (wl fun K hK=>?_)))
 refine wa [.nilfunc] bd bn fun f bw aa (be:Kn 14 (Ia a b d f) [tP 5 3 0,tP 4 2 0,tP 3 1 0,tP 2 0 0] bw) (bo:Ah F h (Ia a b d f) [⟨Hf g r_ l j m k o,some 43⟩,⟨[.func fn_see fa_see fc_see],some 107⟩,⟨LW r_,some 3⟩,⟨[.nilfunc],some 144⟩] [] aa)=>hK _ _ ?_
 refine wf (XT (Aa ?_))
 obtain⟨v,q,am,af⟩:=bo.settlePlc (i:=2) rfl
 replace hs:=hXS.up hs q
 replace af:Ah F v (Ia a b d f) [⟨Hf g r_ l j m k o,some 43⟩,⟨[.func fn_see fa_see fc_see],some 107⟩,⟨LW r_,none⟩,⟨[.nilfunc],some 144⟩] [] aa:=af
 have ac:CO v d (((r_.buses.length:Nat):Int):Int):=CO.of (e:=(Ia a b d f)) (cs:=(LW r_)) (Ac:rep v (((r_.buses.length:Nat):Int):Int) _) rfl am
 have b4:AD v d [.int .i64 ((r_.buses.length:Nat):Int)]:=AD.of (e:=[(a,0),(b,0),(d,0),(f,0)]) (cs:=[.int .i64 ((r_.buses.length:Nat):Int)]) rfl am
 obtain⟨x,p,an,ag⟩:=af.settlePlc (i:=0) rfl
 replace aj:=aj.mono (XU q p)
 replace ak:=ak.mono (XU q p)
 replace al:=al.mono (XU q p)
 replace hs:=hXS.up hs p
 replace ag:Ah F x (Ia a b d f) [⟨Hf g r_ l j m k o,none⟩,⟨[.func fn_see fa_see fc_see],some 107⟩,⟨LW r_,none⟩,⟨[.nilfunc],some 144⟩] [] aa:=ag
 have ad:CO x a (r_:Af):=CO.of (e:=(Ia a b d f)) (cs:=(Hf g r_ l j m k o)) ((Ab (Ad aj) (Ab (Ab Ac Ac) (Ab (Ad ak) (Ab (Ad al) (Ab Ac (Ab Ac (Ab Ac Ac))))))):rep x (r_:Af) _) rfl an
 have b5:AD x a [.slice g r_.legs.length l,.int .i64 r_.turn.lo,.int .i64 r_.turn.hi,.slice j r_.buses.length m,.slice k r_.spares.length o,.int .i64 r_.unit,.int .i64 r_.gap,.int .i64 r_.fr,.int .i64 r_.to_]:=AD.of (e:=[(a,0),(b,0),(d,0),(f,0)]) (cs:=[.slice g r_.legs.length l,.int .i64 r_.turn.lo,.int .i64 r_.turn.hi,.slice j r_.buses.length m,.slice k r_.spares.length o,.int .i64 r_.unit,.int .i64 r_.gap,.int .i64 r_.fr,.int .i64 r_.to_]) rfl an
 obtain⟨ab,z,a5,ah⟩:=ag.settlePlc (i:=1) rfl
 replace hs:=hXS.up hs z
 replace ah:Ah F ab (Ia a b d f) [⟨Hf g r_ l j m k o,none⟩,⟨[.func fn_see fa_see fc_see],none⟩,⟨LW r_,none⟩,⟨[.nilfunc],some 144⟩] [] aa:=ah
 have ae:AD ab b [.func fn_see fa_see fc_see]:=AD.of (e:=[(a,0),(b,0),(d,0),(f,0)]) (cs:=[.func fn_see fa_see fc_see]) rfl a5
 refine H6 0 #[] #[.pointer (some ⟨d,0,none⟩),.pointer (some ⟨f,0,none⟩),.pointer (some ⟨a,0,none⟩),.pointer (some ⟨b,0,none⟩)] be rfl rfl (rfl) rfl (by decide) (by rfl) (by rfl) (by rfl) (by rfl) fun av (bf:Kn 14 (Ia a b d f) [(9,.one (.c (.func (.func 85) #[] #[.pointer (some ⟨d,0,none⟩),.pointer (some ⟨f,0,none⟩),.pointer (some ⟨a,0,none⟩),.pointer (some ⟨b,0,none⟩)]))),tP 5 3 0,tP 4 2 0,tP 3 1 0,tP 2 0 0] av)=>?_
 refine wl fun K hK=>?_
 refine G2 3 0 (.c (.func (.func 85) #[] #[.pointer (some ⟨d,0,none⟩),.pointer (some ⟨f,0,none⟩),.pointer (some ⟨a,0,none⟩),.pointer (some ⟨b,0,none⟩)])) (TW d f a b) bf ah fun ax bg (aq:Ah F ab (Ia a b d f) [⟨Hf g r_ l j m k o,none⟩,⟨[.func fn_see fa_see fc_see],none⟩,⟨LW r_,none⟩,⟨TW d f a b,some 144⟩] [] ax)=>hK _ _ ?_
 have bh:Kn 14 (Ia a b d f) [tP 5 3 0] av:=bg.kp
 refine wf (Aa (Rk 0 3 [tA 12 [.int .i64 0,.int .i64 0],tA 11 TV,(10,.one (.c (.func (.func 85) #[] #[.pointer (some ⟨d,0,none⟩),.pointer (some ⟨f,0,none⟩),.pointer (some ⟨a,0,none⟩),.pointer (some ⟨b,0,none⟩)])))] bh aq fun b8 bi=>?_))
 obtain⟨y,u,a6,ai⟩:=aq.settlePlc (i:=3) rfl
 replace ac:=ac.mono (XU (XU p z) u)
 replace ad:=ad.mono (XU z u)
 replace ae:=ae.mono u
 replace hs:=hXS.up hs u
 replace ai:Ah F y (Ia a b d f) [⟨Hf g r_ l j m k o,none⟩,⟨[.func fn_see fa_see fc_see],none⟩,⟨LW r_,none⟩,⟨TW d f a b,none⟩] [] ax:=ai
 have a4:AD y f [.func (.func 85) #[] #[.pointer (some ⟨d,0,none⟩),.pointer (some ⟨f,0,none⟩),.pointer (some ⟨a,0,none⟩),.pointer (some ⟨b,0,none⟩)]]:=AD.of (e:=[(a,0),(b,0),(d,0),(f,0)]) (cs:=[.func (.func 85) #[] #[.pointer (some ⟨d,0,none⟩),.pointer (some ⟨f,0,none⟩),.pointer (some ⟨a,0,none⟩),.pointer (some ⟨b,0,none⟩)]]) rfl a6
 obtain⟨x13,ex13,H⟩:=Aq H
 obtain⟨b3,bk,a0,br⟩:=ai.lendS hXS hs
 refine wl fun K hK=>?_
 refine HV (.func (.func 85) #[] #[.pointer (some ⟨d,0,none⟩),.pointer (some ⟨f,0,none⟩),.pointer (some ⟨a,0,none⟩),.pointer (some ⟨b,0,none⟩)]) [.agg TV,.agg [.int .i64 0,.int .i64 0],.c (.int .i64 0)] _ bi rfl rfl (by decide) (by rfl) (by rfl) rfl ⟨85,_,_,rfl,fun _ _=>by kernel_rfl,HG n hXS see_ hy (Ap.mk (AI.mk 0 0 0 0) (AI.mk 0 0 0 0) (AT.mk false false)) ((Ab (Ab Ac (Ab Ac (Ab Ac Ac))) (Ab (Ab Ac (Ab Ac (Ab Ac Ac))) (Ab Bo Bo))):rep y (Ap.mk (AI.mk 0 0 0 0) (AI.mk 0 0 0 0) (AT.mk false false)) _) (Bb.mk 0 0) ((Ab Ac Ac):rep y (Bb.mk 0 0) _) 0 ((r_.buses.length:Nat):Int) ac a4 r_ ad ae s a0 bk ex13⟩ fun b9 ca az=>?_
 obtain⟨rfl,a3,b2,ao,bs,a1,bp⟩:=az
 obtain⟨ay,bt,a2,bq⟩:=br _ _ _ _ ao bs a1 bp
 have bu:=Fr.Sim.trans (Fr.Sim.refl B F) bt
 refine⟨.tup [],rfl,fun aw (bj:Kn 14 (Ia a b d f) [(13,.tup []),tA 12 [.int .i64 0,.int .i64 0],tA 11 TV,(10,.one (.c (.func (.func 85) #[] #[.pointer (some ⟨d,0,none⟩),.pointer (some ⟨f,0,none⟩),.pointer (some ⟨a,0,none⟩),.pointer (some ⟨b,0,none⟩)])))] aw)=>hK _ _ ?_⟩
 have b6:Kn 14 (Ia a b d f) [] aw:=bj.kp
 refine wf ?_
 obtain rfl:=XZ H
 exact GC rfl ⟨rfl,a3,ay,XU q (XU p (XU z (XU u ao))),bu,a2,(bq.cutRw 0).cutPl 0 (by kernel_rfl)⟩
end Go.Proofs.Ytokchpjijlebiaa
