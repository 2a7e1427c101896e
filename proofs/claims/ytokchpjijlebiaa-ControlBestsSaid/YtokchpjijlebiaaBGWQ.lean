/- Each call computes its plain function. -/
import Derived.Test.YtokchpjijlebiaaProg
import Derived.Test.YtokchpjijlebiaaBGP0
import Derived.Test.YtokchpjijlebiaaBGWP
set_option linter.all false
namespace Go.Proofs.Ytokchpjijlebiaa
open Go Go.RowKit
open Rep (rep)
open KRep (kv)
open VRep (rv)
abbrev SG (b:Cy):List SC:=[.int .i64 b.stop,.int .i64 b.tm.lo,.int .i64 b.tm.hi]
abbrev Ro (a:Option Addr) (q0:Af) (g:Nat) (d:Option Addr) (i:Nat) (f:Option Addr) (k:Nat):List SC:=[.slice a q0.legs.length g,.int .i64 q0.turn.lo,.int .i64 q0.turn.hi,.slice d q0.buses.length i,.slice f q0.spares.length k,.int .i64 q0.unit,.int .i64 q0.gap,.int .i64 q0.fr,.int .i64 q0.to_]
set_option maxRecDepth 100000 in
set_option maxHeartbeats 4000000 in
theorem HA (n:Nat) {h:Ae} {w:World} (hh:Dn h w) (b:Cy) {cs_b:List Value} (hx_b:rep h b cs_b) (q0:Af) {b_q0:Nat} (hb_q0:CO h b_q0 q0) {r:Bool} (H:B4 n b q0=some r) :
  Calls Try.prog 75 #[.agg cs_b.toArray,.pointer (some ⟨b_q0,0,none⟩)] w (Dp (fun h v=>v=.bool r) h w):=by
 obtain⟨_,_,rfl,rfl,⟨_,_,rfl,rfl,rfl⟩⟩:=hx_b
 obtain⟨_,hx_q0,hc_q0⟩:=id hb_q0
 obtain⟨_,_,rfl,⟨a,g,rfl,u⟩,⟨_,_,rfl,⟨_,_,rfl,rfl,rfl⟩,⟨_,_,rfl,⟨d,i,rfl,x⟩,⟨_,_,rfl,⟨f,k,rfl,y⟩,⟨_,_,rfl,rfl,⟨_,_,rfl,rfl,⟨_,_,rfl,rfl,rfl⟩⟩⟩⟩⟩⟩⟩:=hx_q0
 refine H5 (e:=[(b_q0,0)]) 13 [.agg (SG b),.c (.ptr 0 0)] Try.func75 rfl rfl rfl rfl fun t hk=>?_
 have hm:=Ah.begin h w hh
 replace hm:=hm.addPlc (o:=0) (cs:=[.slice a q0.legs.length g,.int .i64 q0.turn.lo,.int .i64 q0.turn.hi,.slice d q0.buses.length i,.slice f q0.spares.length k,.int .i64 q0.unit,.int .i64 q0.gap,.int .i64 q0.fr,.int .i64 q0.to_]) (fun j c hj=>by rw [Nat.zero_add]; exact hc_q0 j _ (Al hj)) rfl (by kernel_rfl) (by kernel_rfl)
 replace hm:Ah ⟨w,h,Aj⟩ h [(b_q0,0)] [⟨Ro a q0 g d i f k,none⟩] [] w:=hm
 unfold B4 at H
 refine XT (Aa (wl fun K hK=>?_))
 refine wb (.agg (SG b)) hk hm fun l ap au (ag:Kn 13 [(b_q0,0),(l,0)] [tP 2 1 0,tA 0 (SG b),tP 1 0 0] ap) (s:Ah ⟨w,h,Aj⟩ h [(b_q0,0),(l,0)] [⟨Ro a q0 g d i f k,none⟩,⟨SG b,some 96⟩] [] au)=>hK _ _ ?_
 refine Rk 1 1 [tP 2 1 0,tP 1 0 0] ag s fun ax ah=>?_
 refine wf (XT (Aa (Rk 0 3 [tI 6 b.stop,tA 4 (Ro a q0 g d i f k),tP 2 1 0] ah s fun ay ai=>?_)))
 obtain⟨x7,ex7,H⟩:=Aq H
 refine wl fun K hK=>?_
 refine wc [.agg (Ro a q0 g d i f k),.c (.int .i64 b.stop)] ai s (Eg n s.has q0 ((Ab (Ad u) (Ab (Ab Ac Ac) (Ab (Ad x) (Ab (Ad y) (Ab Ac (Ab Ac (Ab Ac Ac))))))):rep h q0 _) b.stop ex7) fun a2 af a4 ad q m=>?_
 replace u:=u.mono q
 replace x:=x.mono q
 replace y:=y.mono q
 replace hb_q0:=hb_q0.mono q
 obtain rfl:=ad
 refine⟨.one (.c (.bool x7)),rfl,fun aq (aj:Kn 13 [(b_q0,0),(l,0)] [tB 7 x7,tI 6 b.stop,tA 4 (Ro a q0 g d i f k),tP 2 1 0] aq)=>hK _ _ ?_⟩
 refine Rk 4 1 [tB 8 x7,tP 2 1 0] aj m fun ac z=>?_
 rcases Bool.eq_false_or_eq_true (x7) with p | p
 ·
  rw [p,XW] at H
  have ak:Kn 13 [(b_q0,0),(l,0)] [tB 8 true,tP 2 1 0] ac:=(z.setB 8 true (by rfl) p).kp
  refine Rk 5 2 [tA 10 [.int .i64 b.tm.lo,.int .i64 b.tm.hi],tB 8 true] ak m fun az aa=>?_
  obtain⟨x11,ex11,H⟩:=Aq H
  refine AS _ rfl (Ak aa (by kernel_rfl)) fun K hK=>?_
  refine wc [.agg [.int .i64 b.tm.lo,.int .i64 b.tm.hi],.c (.int .i64 2000)] aa m (FH n m.has b.tm ((Ab Ac Ac):rep af b.tm _) 2000 ex11) fun a3 av a5 ae aw ab=>?_
  obtain rfl:=ae
  refine⟨.one (.c (.bool x11)),rfl,fun ar (al:Kn 13 [(b_q0,0),(l,0)] [tB 11 x11,tA 10 [.int .i64 b.tm.lo,.int .i64 b.tm.hi],tB 8 true] ar)=>hK _ _ ?_⟩
  refine Rk 8 2 [tB 3 x11] al ab fun a0 am=>?_
  refine wf (wp_ret ?_)
  obtain rfl:=XZ H
  exact rt (.one (.c (.bool x11))) am ab rfl
 ·
  rw [p,XV] at H
  have an:Kn 13 [(b_q0,0),(l,0)] [tB 8 false,tP 2 1 0] ac:=(z.setB 8 false (by rfl) p).kp
  refine Rk 5 5 [tB 3 false] an m fun a1 ao=>?_
  refine wf (wp_ret ?_)
  obtain rfl:=XZ H
  exact rt (.one (.c (.bool false))) ao m rfl
abbrev Rp (a:Option Addr) (q0:Af) (f:Nat) (b:Option Addr) (g:Nat) (d:Option Addr) (i:Nat):List SC:=[.slice a q0.legs.length f,.int .i64 q0.turn.lo,.int .i64 q0.turn.hi,.slice b q0.buses.length g,.slice d q0.spares.length i,.int .i64 q0.unit,.int .i64 q0.gap,.int .i64 q0.fr,.int .i64 q0.to_]
set_option maxRecDepth 100000 in
set_option maxHeartbeats 4000000 in
theorem HB (n:Nat) {h:Ae} {w:World} (hh:Dn h w) (s:A7) {cs_s:List Value} (hx_s:rep h s cs_s) (q0:Af) {b_q0:Nat} (hb_q0:CO h b_q0 q0) {r:Bool} (H:B5 n s q0=some r) :
  Calls Try.prog 77 #[.agg cs_s.toArray,.pointer (some ⟨b_q0,0,none⟩)] w (Dp (fun h v=>v=.bool r) h w):=by
 obtain⟨_,_,rfl,rfl,rfl⟩:=hx_s
 obtain⟨_,hx_q0,hc_q0⟩:=id hb_q0
 obtain⟨_,_,rfl,⟨a,f,rfl,u⟩,⟨_,_,rfl,⟨_,_,rfl,rfl,rfl⟩,⟨_,_,rfl,⟨b,g,rfl,x⟩,⟨_,_,rfl,⟨d,i,rfl,y⟩,⟨_,_,rfl,rfl,⟨_,_,rfl,rfl,⟨_,_,rfl,rfl,rfl⟩⟩⟩⟩⟩⟩⟩:=hx_q0
 refine H5 (e:=[(b_q0,0)]) 13 [.agg [.int .i64 s.stop,.int .i64 s.tm],.c (.ptr 0 0)] Try.func77 rfl rfl rfl rfl fun t hk=>?_
 have hm:=Ah.begin h w hh
 replace hm:=hm.addPlc (o:=0) (cs:=[.slice a q0.legs.length f,.int .i64 q0.turn.lo,.int .i64 q0.turn.hi,.slice b q0.buses.length g,.slice d q0.spares.length i,.int .i64 q0.unit,.int .i64 q0.gap,.int .i64 q0.fr,.int .i64 q0.to_]) (fun j c hj=>by rw [Nat.zero_add]; exact hc_q0 j _ (Al hj)) rfl (by kernel_rfl) (by kernel_rfl)
 replace hm:Ah ⟨w,h,Aj⟩ h [(b_q0,0)] [⟨Rp a q0 f b g d i,none⟩] [] w:=hm
 unfold B5 at H
 refine XT (Aa (wl fun K hK=>?_))
 refine wb (.agg [.int .i64 s.stop,.int .i64 s.tm]) hk hm fun k ao ar (af:Kn 13 [(b_q0,0),(k,0)] [tP 2 1 0,tA 0 [.int .i64 s.stop,.int .i64 s.tm],tP 1 0 0] ao) (q:Ah ⟨w,h,Aj⟩ h [(b_q0,0),(k,0)] [⟨Rp a q0 f b g d i,none⟩,⟨[.int .i64 s.stop,.int .i64 s.tm],some 110⟩] [] ar)=>hK _ _ ?_
 refine Rk 1 1 [tP 2 1 0,tP 1 0 0] af q fun ax ag=>?_
 refine wf (XT (Aa (Rk 0 3 [tI 6 s.stop,tA 4 (Rp a q0 f b g d i),tP 2 1 0] ag q fun ay ah=>?_)))
 obtain⟨x7,ex7,H⟩:=Aq H
 refine wl fun K hK=>?_
 refine wc [.agg (Rp a q0 f b g d i),.c (.int .i64 s.stop)] ah q (Eg n q.has q0 ((Ab (Ad u) (Ab (Ab Ac Ac) (Ab (Ad x) (Ab (Ad y) (Ab Ac (Ab Ac (Ab Ac Ac))))))):rep h q0 _) s.stop ex7) fun a2 au a4 ad p l=>?_
 replace u:=u.mono p
 replace x:=x.mono p
 replace y:=y.mono p
 replace hb_q0:=hb_q0.mono p
 obtain rfl:=ad
 refine⟨.one (.c (.bool x7)),rfl,fun ap (ai:Kn 13 [(b_q0,0),(k,0)] [tB 7 x7,tI 6 s.stop,tA 4 (Rp a q0 f b g d i),tP 2 1 0] ap)=>hK _ _ ?_⟩
 refine Rk 4 1 [tB 8 x7,tP 2 1 0] ai l fun ac z=>?_
 rcases Bool.eq_false_or_eq_true (x7) with m | m
 ·
  rw [m,XW] at H
  have aj:Kn 13 [(b_q0,0),(k,0)] [tB 8 true,tP 2 1 0] ac:=(z.setB 8 true (by rfl) m).kp
  refine Rk 5 2 [tI 10 s.tm,tB 8 true] aj l fun az aa=>?_
  obtain⟨x11,ex11,H⟩:=Aq H
  refine AS _ rfl (Ak aa (by kernel_rfl)) fun K hK=>?_
  refine wc [.c (.int .i64 s.tm)] aa l (Ej n l.has s.tm ex11) fun a3 av a5 ae aw ab=>?_
  obtain rfl:=ae
  refine⟨.one (.c (.bool x11)),rfl,fun aq (ak:Kn 13 [(b_q0,0),(k,0)] [tB 11 x11,tI 10 s.tm,tB 8 true] aq)=>hK _ _ ?_⟩
  refine Rk 8 2 [tB 3 x11] ak ab fun a0 al=>?_
  refine wf (wp_ret ?_)
  obtain rfl:=XZ H
  exact rt (.one (.c (.bool x11))) al ab rfl
 ·
  rw [m,XV] at H
  have am:Kn 13 [(b_q0,0),(k,0)] [tB 8 false,tP 2 1 0] ac:=(z.setB 8 false (by rfl) m).kp
  refine Rk 5 5 [tB 3 false] am l fun a1 an=>?_
  refine wf (wp_ret ?_)
  obtain rfl:=XZ H
  exact rt (.one (.c (.bool false))) an l rfl
abbrev HC (s:List Rg) (a_s:Option Addr) (c_s:Nat) (fn_f:Fn) (fa_f fc_f:Array Value):TM:=[tI 7 ((s.length:Nat):Int),tS 0 a_s s.length c_s,(1,.one (.c (.func fn_f fa_f fc_f)))]
set_option maxRecDepth 100000 in
set_option maxHeartbeats 4000000 in
theorem Dt (n:Nat) {h:Ae} {w:World} (hh:Dn h w) (s:List Rg) {a_s:Option Addr} {c_s:Nat} (hr_s:A6 h a_s c_s s) (f:Rg→Option Bool) {fn_f:Fn} {fa_f fc_f:Array Value} (hf_f:Ue h (.func fn_f fa_f fc_f) f) {r:Int} (H:AE n s f=some r) :
  Calls Try.prog 110 #[.slice a_s s.length c_s,.func fn_f fa_f fc_f] w (Dp (fun h v=>v=.int .i64 r) h w):=by
 refine enter 19 [.c (.slice a_s s.length c_s),.c (.func fn_f fa_f fc_f)] Try.func110 rfl rfl rfl rfl fun t hk=>?_
 have hm:=Ah.begin h w hh
 unfold AE at H
 refine XT (Aa (Rk 0 1 [tS 0 a_s s.length c_s,(1,.one (.c (.func fn_f fa_f fc_f)))] hk hm fun a7 aj=>?_))
 refine wf (XT (XT (Aa (Rk 0 3 ((tI 8 0)::(HC s a_s c_s fn_f fa_f fc_f)) aj hm fun bb an=>?_))))
 refine wf ?_
 obtain⟨ac,aa,H⟩:=Aq H
 refine Av (fun a' w'=>∃ (ad:Unit)(z:Array Value)(l:Ae),a' = ⟨z,[]⟩∧Kn 19 [] [] z∧Ah ⟨w,h,Aj⟩ l [] [] [] w'∧Ae.le h l∧ac=.go ad) ?_ ?_
 ·
  refine wp_block ?_
  refine Ar (fun a1 a' w'=>∃ (x_v10:Int)(y:Array Value)(b:Ae),a' = ⟨y,[]⟩∧Kn 19 [] ((tI 8 x_v10)::(HC s a_s c_s fn_f fa_f fc_f)) y∧Ah ⟨w,h,Aj⟩ b [] [] [] w'∧Ae.le h b∧As a1 s f x_v10=some ac) n ?_ ?_
  ·
   exact XY 0 ⟨_,_,rfl,an.kp,hm,Ae.le_refl _,aa⟩
  ·
   rintro x _ a3 ⟨x_v10,y,b,rfl,ai,d,g,a⟩
   clear aa
   obtain _ | x:=x
   ·
    rw [As] at a; cases a
   rw [As] at a
   replace hr_s:=hr_s.mono g
   replace hf_f:=hf_f.mono g
   refine XT (Aa (Rk 0 1 ((tB 9 (decide (x_v10<((s.length:Nat):Int))))::(tI 8 x_v10)::(HC s a_s c_s fn_f fa_f fc_f)) ai d fun a8 p=>?_))
   refine wf (XT (wC (decide (x_v10<((s.length:Nat):Int))) p (fun m=>?_) (fun m=>?_)))
   ·
    rw [m,XW] at a
    refine wp_skip (XT (wp_block (XT (Aa (Rk 0 2 ((tI 5 x_v10)::(tI 8 x_v10)::(HC s a_s c_s fn_f fa_f fc_f)) p d fun a9 ak=>?_)))))
    refine wf (XT (Aa (Rk 0 3 ((tI 13 x_v10)::(tS 12 a_s s.length c_s)::(11,.one (.c (.func fn_f fa_f fc_f)))::(tI 5 x_v10)::(tI 8 x_v10)::(HC s a_s c_s fn_f fa_f fc_f)) ak d fun ba al=>?_)))
    obtain⟨x14,ex14,a⟩:=Aq a
    obtain⟨ax,ay,a0⟩:=Ai ex14
    obtain⟨e,k,a4,ag,az,ah⟩:=hr_s.get (by decide) a0
    obtain⟨_,_,rfl,rfl,rfl⟩:=az
    have u:Ah ⟨w,h,Aj⟩ b [(e,k+(x_v10:Int).toNat*2)] [⟨[.int .i64 x14.lo,.int .i64 x14.hi],none⟩] [] a3:=d.addPlc (cs:=[.int .i64 x14.lo,.int .i64 x14.hi]) (fun j c hj=>ah j _ (Al hj)) rfl (by kernel_rfl) (by kernel_rfl)
    refine Bc 3 (x_v10) rfl rfl (rfl) rfl (by decide) al (by rfl) (by rfl) (by rfl) ag (by rfl) ax ay (by kernel_rfl) fun a2 (am:Kn 19 [(e,k+(x_v10:Int).toNat*2)] ((tP 14 0 0)::(tI 13 x_v10)::(tS 12 a_s s.length c_s)::(11,.one (.c (.func fn_f fa_f fc_f)))::(tI 5 x_v10)::(tI 8 x_v10)::(HC s a_s c_s fn_f fa_f fc_f)) a2)=>?_
    refine Rk 4 1 ((tA 15 [.int .i64 x14.lo,.int .i64 x14.hi])::(11,.one (.c (.func fn_f fa_f fc_f)))::(tI 5 x_v10)::(tI 8 x_v10)::(HC s a_s c_s fn_f fa_f fc_f)) am u fun bc ao=>?_
    obtain⟨x16,ex16,a⟩:=Aq a
    refine wl fun K hK=>?_
    refine DB (.func fn_f fa_f fc_f) [.agg [.int .i64 x14.lo,.int .i64 x14.hi]] _ ao u rfl rfl (by decide) (by rfl) (by rfl) rfl (hf_f _ _ (Ae.le_refl _) u.has x14 _ ((Ab Ac Ac):rep b x14 _) _ ex16) fun bg a5 bh af aw i=>?_
    obtain rfl:=af
    refine⟨.one (.c (.bool x16)),rfl,fun ae (ap:Kn 19 [(e,k+(x_v10:Int).toNat*2)] ((tB 16 x16)::(tA 15 [.int .i64 x14.lo,.int .i64 x14.hi])::(11,.one (.c (.func fn_f fa_f fc_f)))::(tI 5 x_v10)::(tI 8 x_v10)::(HC s a_s c_s fn_f fa_f fc_f)) ae)=>hK _ _ ?_⟩
    have q:Kn 19 [(e,k+(x_v10:Int).toNat*2)] ((tB 16 x16)::(tI 5 x_v10)::(tI 8 x_v10)::(HC s a_s c_s fn_f fa_f fc_f)) ae:=ap.kp
    refine wf (wC (x16) q (fun o=>?_) (fun o=>?_))
    ·
     rw [o,XW] at a
     refine XT (Aa (Rk 0 2 [tI 4 x_v10] q i fun bd aq=>?_))
     refine wf (wp_ret ?_)
     obtain rfl:=XZ a
     obtain rfl:=XZ H
     exact rt (.one (.c (.int .i64 x_v10))) aq i rfl
    ·
     rw [o,XV] at a
     refine wp_skip (Aa (Rk 0 2 ((tI 8 (IntKind.i64.wrap (x_v10+1)))::(HC s a_s c_s fn_f fa_f fc_f)) q i fun be ar=>?_))
     refine wf ?_
     exact XY x ⟨Nat.lt_succ_self _,XY (IntKind.i64.wrap (x_v10+1)) ⟨_,_,rfl,(ar.keep [8,7,0,1] (by rfl)).cut 0 (by kernel_rfl),i.cutPl 0 (by kernel_rfl),XU g aw,a⟩⟩
   ·
    rw [m,XV] at a
    refine wp_exit ?_
    obtain rfl:=XZ a
    exact XY () ⟨_,_,rfl,p.kp,d,g,rfl⟩
 ·
  rintro _ bi ⟨ad,z,l,rfl,au,ab,a6,rfl⟩
  rw [Ex.bind_go] at H
  refine XT (Aa (Rk 0 1 [tI 4 (-1)] au ab fun bf av=>?_))
  refine wf (wp_ret ?_)
  obtain rfl:=XZ H
  exact rt (.one (.c (.int .i64 (-1)))) av ab rfl
abbrev Oy (x14:Cy):List SC:=[.int .i64 x14.stop,.int .i64 x14.tm.lo,.int .i64 x14.tm.hi]
abbrev HD (s:List Cy) (a_s:Option Addr) (c_s:Nat) (fn_f:Fn) (fa_f fc_f:Array Value):TM:=[tI 7 ((s.length:Nat):Int),tS 0 a_s s.length c_s,(1,.one (.c (.func fn_f fa_f fc_f)))]
set_option maxRecDepth 100000 in
set_option maxHeartbeats 4000000 in
theorem DG (n:Nat) {h:Ae} {w:World} (hh:Dn h w) (s:List Cy) {a_s:Option Addr} {c_s:Nat} (hr_s:A6 h a_s c_s s) (f:Cy→Option Bool) {fn_f:Fn} {fa_f fc_f:Array Value} (hf_f:Uf h (.func fn_f fa_f fc_f) f) {r:Int} (H:AV n s f=some r) :
  Calls Try.prog 111 #[.slice a_s s.length c_s,.func fn_f fa_f fc_f] w (Dp (fun h v=>v=.int .i64 r) h w):=by
 refine enter 19 [.c (.slice a_s s.length c_s),.c (.func fn_f fa_f fc_f)] Try.func111 rfl rfl rfl rfl fun t hk=>?_
 have hm:=Ah.begin h w hh
 unfold AV at H
 refine XT (Aa (Rk 0 1 [tS 0 a_s s.length c_s,(1,.one (.c (.func fn_f fa_f fc_f)))] hk hm fun a7 aj=>?_))
 refine wf (XT (XT (Aa (Rk 0 3 ((tI 8 0)::(HD s a_s c_s fn_f fa_f fc_f)) aj hm fun bb an=>?_))))
 refine wf ?_
 obtain⟨ac,aa,H⟩:=Aq H
 refine Av (fun a' w'=>∃ (ad:Unit)(z:Array Value)(l:Ae),a' = ⟨z,[]⟩∧Kn 19 [] [] z∧Ah ⟨w,h,Aj⟩ l [] [] [] w'∧Ae.le h l∧ac=.go ad) ?_ ?_
 ·
  refine wp_block ?_
  refine Ar (fun a1 a' w'=>∃ (x_v10:Int)(y:Array Value)(b:Ae),a' = ⟨y,[]⟩∧Kn 19 [] ((tI 8 x_v10)::(HD s a_s c_s fn_f fa_f fc_f)) y∧Ah ⟨w,h,Aj⟩ b [] [] [] w'∧Ae.le h b∧Aw a1 s f x_v10=some ac) n ?_ ?_
  ·
   exact XY 0 ⟨_,_,rfl,an.kp,hm,Ae.le_refl _,aa⟩
  ·
   rintro x _ a3 ⟨x_v10,y,b,rfl,ai,d,g,a⟩
   clear aa
   obtain _ | x:=x
   ·
    rw [Aw] at a; cases a
   rw [Aw] at a
   replace hr_s:=hr_s.mono g
   replace hf_f:=hf_f.mono g
   refine XT (Aa (Rk 0 1 ((tB 9 (decide (x_v10<((s.length:Nat):Int))))::(tI 8 x_v10)::(HD s a_s c_s fn_f fa_f fc_f)) ai d fun a8 p=>?_))
   refine wf (XT (wC (decide (x_v10<((s.length:Nat):Int))) p (fun m=>?_) (fun m=>?_)))
   ·
    rw [m,XW] at a
    refine wp_skip (XT (wp_block (XT (Aa (Rk 0 2 ((tI 5 x_v10)::(tI 8 x_v10)::(HD s a_s c_s fn_f fa_f fc_f)) p d fun a9 ak=>?_)))))
    refine wf (XT (Aa (Rk 0 3 ((tI 13 x_v10)::(tS 12 a_s s.length c_s)::(11,.one (.c (.func fn_f fa_f fc_f)))::(tI 5 x_v10)::(tI 8 x_v10)::(HD s a_s c_s fn_f fa_f fc_f)) ak d fun ba al=>?_)))
    obtain⟨x14,ex14,a⟩:=Aq a
    obtain⟨ax,ay,a0⟩:=Ai ex14
    obtain⟨e,k,a4,ag,az,ah⟩:=hr_s.get (by decide) a0
    obtain⟨_,_,rfl,rfl,⟨_,_,rfl,rfl,rfl⟩⟩:=az
    have u:Ah ⟨w,h,Aj⟩ b [(e,k+(x_v10:Int).toNat*3)] [⟨Oy x14,none⟩] [] a3:=d.addPlc (cs:=(Oy x14)) (fun j c hj=>ah j _ (Al hj)) rfl (by kernel_rfl) (by kernel_rfl)
    refine Bc 3 (x_v10) rfl rfl (rfl) rfl (by decide) al (by rfl) (by rfl) (by rfl) ag (by rfl) ax ay (by kernel_rfl) fun a2 (am:Kn 19 [(e,k+(x_v10:Int).toNat*3)] ((tP 14 0 0)::(tI 13 x_v10)::(tS 12 a_s s.length c_s)::(11,.one (.c (.func fn_f fa_f fc_f)))::(tI 5 x_v10)::(tI 8 x_v10)::(HD s a_s c_s fn_f fa_f fc_f)) a2)=>?_
    refine Rk 4 1 ((tA 15 (Oy x14))::(11,.one (.c (.func fn_f fa_f fc_f)))::(tI 5 x_v10)::(tI 8 x_v10)::(HD s a_s c_s fn_f fa_f fc_f)) am u fun bc ao=>?_
    obtain⟨x16,ex16,a⟩:=Aq a
    refine wl fun K hK=>?_
    refine DB (.func fn_f fa_f fc_f) [.agg (Oy x14)] _ ao u rfl rfl (by decide) (by rfl) (by rfl) rfl (hf_f _ _ (Ae.le_refl _) u.has x14 _ ((Ab Ac (Ab Ac Ac)):rep b x14 _) _ ex16) fun bg a5 bh af aw i=>?_
    obtain rfl:=af
    refine⟨.one (.c (.bool x16)),rfl,fun ae (ap:Kn 19 [(e,k+(x_v10:Int).toNat*3)] ((tB 16 x16)::(tA 15 (Oy x14))::(11,.one (.c (.func fn_f fa_f fc_f)))::(tI 5 x_v10)::(tI 8 x_v10)::(HD s a_s c_s fn_f fa_f fc_f)) ae)=>hK _ _ ?_⟩
    have q:Kn 19 [(e,k+(x_v10:Int).toNat*3)] ((tB 16 x16)::(tI 5 x_v10)::(tI 8 x_v10)::(HD s a_s c_s fn_f fa_f fc_f)) ae:=ap.kp
    refine wf (wC (x16) q (fun o=>?_) (fun o=>?_))
    ·
     rw [o,XW] at a
     refine XT (Aa (Rk 0 2 [tI 4 x_v10] q i fun bd aq=>?_))
     refine wf (wp_ret ?_)
     obtain rfl:=XZ a
     obtain rfl:=XZ H
     exact rt (.one (.c (.int .i64 x_v10))) aq i rfl
    ·
     rw [o,XV] at a
     refine wp_skip (Aa (Rk 0 2 ((tI 8 (IntKind.i64.wrap (x_v10+1)))::(HD s a_s c_s fn_f fa_f fc_f)) q i fun be ar=>?_))
     refine wf ?_
     exact XY x ⟨Nat.lt_succ_self _,XY (IntKind.i64.wrap (x_v10+1)) ⟨_,_,rfl,(ar.keep [8,7,0,1] (by rfl)).cut 0 (by kernel_rfl),i.cutPl 0 (by kernel_rfl),XU g aw,a⟩⟩
   ·
    rw [m,XV] at a
    refine wp_exit ?_
    obtain rfl:=XZ a
    exact XY () ⟨_,_,rfl,p.kp,d,g,rfl⟩
 ·
  rintro _ bi ⟨ad,z,l,rfl,au,ab,a6,rfl⟩
  rw [Ex.bind_go] at H
  refine XT (Aa (Rk 0 1 [tI 4 (-1)] au ab fun bf av=>?_))
  refine wf (wp_ret ?_)
  obtain rfl:=XZ H
  exact rt (.one (.c (.int .i64 (-1)))) av ab rfl
abbrev HE (s:List A7) (a_s:Option Addr) (c_s:Nat) (fn_f:Fn) (fa_f fc_f:Array Value):TM:=[tI 7 ((s.length:Nat):Int),tS 0 a_s s.length c_s,(1,.one (.c (.func fn_f fa_f fc_f)))]
set_option maxRecDepth 100000 in
set_option maxHeartbeats 4000000 in
theorem Du (n:Nat) {h:Ae} {w:World} (hh:Dn h w) (s:List A7) {a_s:Option Addr} {c_s:Nat} (hr_s:A6 h a_s c_s s) (f:A7→Option Bool) {fn_f:Fn} {fa_f fc_f:Array Value} (hf_f:Ug h (.func fn_f fa_f fc_f) f) {r:Int} (H:AF n s f=some r) :
  Calls Try.prog 112 #[.slice a_s s.length c_s,.func fn_f fa_f fc_f] w (Dp (fun h v=>v=.int .i64 r) h w):=by
 refine enter 19 [.c (.slice a_s s.length c_s),.c (.func fn_f fa_f fc_f)] Try.func112 rfl rfl rfl rfl fun t hk=>?_
 have hm:=Ah.begin h w hh
 unfold AF at H
 refine XT (Aa (Rk 0 1 [tS 0 a_s s.length c_s,(1,.one (.c (.func fn_f fa_f fc_f)))] hk hm fun a7 aj=>?_))
 refine wf (XT (XT (Aa (Rk 0 3 ((tI 8 0)::(HE s a_s c_s fn_f fa_f fc_f)) aj hm fun bb an=>?_))))
 refine wf ?_
 obtain⟨ac,aa,H⟩:=Aq H
 refine Av (fun a' w'=>∃ (ad:Unit)(z:Array Value)(l:Ae),a' = ⟨z,[]⟩∧Kn 19 [] [] z∧Ah ⟨w,h,Aj⟩ l [] [] [] w'∧Ae.le h l∧ac=.go ad) ?_ ?_
 ·
  refine wp_block ?_
  refine Ar (fun a1 a' w'=>∃ (x_v10:Int)(y:Array Value)(b:Ae),a' = ⟨y,[]⟩∧Kn 19 [] ((tI 8 x_v10)::(HE s a_s c_s fn_f fa_f fc_f)) y∧Ah ⟨w,h,Aj⟩ b [] [] [] w'∧Ae.le h b∧At a1 s f x_v10=some ac) n ?_ ?_
  ·
   exact XY 0 ⟨_,_,rfl,an.kp,hm,Ae.le_refl _,aa⟩
  ·
   rintro x _ a3 ⟨x_v10,y,b,rfl,ai,d,g,a⟩
   clear aa
   obtain _ | x:=x
   ·
    rw [At] at a; cases a
   rw [At] at a
   replace hr_s:=hr_s.mono g
   replace hf_f:=hf_f.mono g
   refine XT (Aa (Rk 0 1 ((tB 9 (decide (x_v10<((s.length:Nat):Int))))::(tI 8 x_v10)::(HE s a_s c_s fn_f fa_f fc_f)) ai d fun a8 p=>?_))
   refine wf (XT (wC (decide (x_v10<((s.length:Nat):Int))) p (fun m=>?_) (fun m=>?_)))
   ·
    rw [m,XW] at a
    refine wp_skip (XT (wp_block (XT (Aa (Rk 0 2 ((tI 5 x_v10)::(tI 8 x_v10)::(HE s a_s c_s fn_f fa_f fc_f)) p d fun a9 ak=>?_)))))
    refine wf (XT (Aa (Rk 0 3 ((tI 13 x_v10)::(tS 12 a_s s.length c_s)::(11,.one (.c (.func fn_f fa_f fc_f)))::(tI 5 x_v10)::(tI 8 x_v10)::(HE s a_s c_s fn_f fa_f fc_f)) ak d fun ba al=>?_)))
    obtain⟨x14,ex14,a⟩:=Aq a
    obtain⟨ax,ay,a0⟩:=Ai ex14
    obtain⟨e,k,a4,ag,az,ah⟩:=hr_s.get (by decide) a0
    obtain⟨_,_,rfl,rfl,rfl⟩:=az
    have u:Ah ⟨w,h,Aj⟩ b [(e,k+(x_v10:Int).toNat*2)] [⟨[.int .i64 x14.stop,.int .i64 x14.tm],none⟩] [] a3:=d.addPlc (cs:=[.int .i64 x14.stop,.int .i64 x14.tm]) (fun j c hj=>ah j _ (Al hj)) rfl (by kernel_rfl) (by kernel_rfl)
    refine Bc 3 (x_v10) rfl rfl (rfl) rfl (by decide) al (by rfl) (by rfl) (by rfl) ag (by rfl) ax ay (by kernel_rfl) fun a2 (am:Kn 19 [(e,k+(x_v10:Int).toNat*2)] ((tP 14 0 0)::(tI 13 x_v10)::(tS 12 a_s s.length c_s)::(11,.one (.c (.func fn_f fa_f fc_f)))::(tI 5 x_v10)::(tI 8 x_v10)::(HE s a_s c_s fn_f fa_f fc_f)) a2)=>?_
    refine Rk 4 1 ((tA 15 [.int .i64 x14.stop,.int .i64 x14.tm])::(11,.one (.c (.func fn_f fa_f fc_f)))::(tI 5 x_v10)::(tI 8 x_v10)::(HE s a_s c_s fn_f fa_f fc_f)) am u fun bc ao=>?_
    obtain⟨x16,ex16,a⟩:=Aq a
    refine wl fun K hK=>?_
    refine DB (.func fn_f fa_f fc_f) [.agg [.int .i64 x14.stop,.int .i64 x14.tm]] _ ao u rfl rfl (by decide) (by rfl) (by rfl) rfl (hf_f _ _ (Ae.le_refl _) u.has x14 _ ((Ab Ac Ac):rep b x14 _) _ ex16) fun bg a5 bh af aw i=>?_
    obtain rfl:=af
    refine⟨.one (.c (.bool x16)),rfl,fun ae (ap:Kn 19 [(e,k+(x_v10:Int).toNat*2)] ((tB 16 x16)::(tA 15 [.int .i64 x14.stop,.int .i64 x14.tm])::(11,.one (.c (.func fn_f fa_f fc_f)))::(tI 5 x_v10)::(tI 8 x_v10)::(HE s a_s c_s fn_f fa_f fc_f)) ae)=>hK _ _ ?_⟩
    have q:Kn 19 [(e,k+(x_v10:Int).toNat*2)] ((tB 16 x16)::(tI 5 x_v10)::(tI 8 x_v10)::(HE s a_s c_s fn_f fa_f fc_f)) ae:=ap.kp
    refine wf (wC (x16) q (fun o=>?_) (fun o=>?_))
    ·
     rw [o,XW] at a
     refine XT (Aa (Rk 0 2 [tI 4 x_v10] q i fun bd aq=>?_))
     refine wf (wp_ret ?_)
     obtain rfl:=XZ a
     obtain rfl:=XZ H
     exact rt (.one (.c (.int .i64 x_v10))) aq i rfl
    ·
     rw [o,XV] at a
     refine wp_skip (Aa (Rk 0 2 ((tI 8 (IntKind.i64.wrap (x_v10+1)))::(HE s a_s c_s fn_f fa_f fc_f)) q i fun be ar=>?_))
     refine wf ?_
     exact XY x ⟨Nat.lt_succ_self _,XY (IntKind.i64.wrap (x_v10+1)) ⟨_,_,rfl,(ar.keep [8,7,0,1] (by rfl)).cut 0 (by kernel_rfl),i.cutPl 0 (by kernel_rfl),XU g aw,a⟩⟩
   ·
    rw [m,XV] at a
    refine wp_exit ?_
    obtain rfl:=XZ a
    exact XY () ⟨_,_,rfl,p.kp,d,g,rfl⟩
 ·
  rintro _ bi ⟨ad,z,l,rfl,au,ab,a6,rfl⟩
  rw [Ex.bind_go] at H
  refine XT (Aa (Rk 0 1 [tI 4 (-1)] au ab fun bf av=>?_))
  refine wf (wp_ret ?_)
  obtain rfl:=XZ H
  exact rt (.one (.c (.int .i64 (-1)))) av ab rfl
set_option maxRecDepth 100000 in
set_option maxHeartbeats 4000000 in
theorem CV (n:Nat) {h:Ae} {w:World} (hh:Dn h w) (s:List Rg) {a_s:Option Addr} {c_s:Nat} (hr_s:A6 h a_s c_s s) (f:Rg→Option Bool) {fn_f:Fn} {fa_f fc_f:Array Value} (hf_f:Ue h (.func fn_f fa_f fc_f) f) {r:Bool} (H:A9 n s f=some r) :
  Calls Try.prog 100 #[.slice a_s s.length c_s,.func fn_f fa_f fc_f] w (Dp (fun h v=>v=.bool r) h w):=by
 refine enter 9 [.c (.slice a_s s.length c_s),.c (.func fn_f fa_f fc_f)] Try.func100 rfl rfl rfl rfl fun t hk=>?_
 have hm:=Ah.begin h w hh
 unfold A9 at H
 refine XT (Aa (Rk 0 1 [tS 0 a_s s.length c_s,(1,.one (.c (.func fn_f fa_f fc_f)))] hk hm fun m g=>?_))
 refine wf (XT (Aa (Rk 0 2 [(6,.one (.c (.func fn_f fa_f fc_f))),tS 5 a_s s.length c_s] g hm fun p i=>?_)))
 obtain⟨x7,ex7,H⟩:=Aq H
 refine wl fun K hK=>?_
 refine wc [.c (.slice a_s s.length c_s),.c (.func fn_f fa_f fc_f)] i hm (Dt n hm.has s hr_s f hf_f ex7) fun q k u b l a=>?_
 obtain rfl:=b
 refine⟨.one (.c (.int .i64 x7)),rfl,fun j (d:Kn 9 [] [tI 7 x7,(6,.one (.c (.func fn_f fa_f fc_f))),tS 5 a_s s.length c_s] j)=>hK _ _ ?_⟩
 refine Rk 3 2 [tB 4 (decide (x7≥0))] d a fun o e=>?_
 refine wf (wp_ret ?_)
 obtain rfl:=XZ H
 exact rt (.one (.c (.bool (decide (x7≥0))))) e a rfl
set_option maxRecDepth 100000 in
set_option maxHeartbeats 4000000 in
theorem D3 (n:Nat) {h:Ae} {w:World} (hh:Dn h w) (s:List Cy) {a_s:Option Addr} {c_s:Nat} (hr_s:A6 h a_s c_s s) (f:Cy→Option Bool) {fn_f:Fn} {fa_f fc_f:Array Value} (hf_f:Uf h (.func fn_f fa_f fc_f) f) {r:Bool} (H:AH n s f=some r) :
  Calls Try.prog 102 #[.slice a_s s.length c_s,.func fn_f fa_f fc_f] w (Dp (fun h v=>v=.bool r) h w):=by
 refine enter 9 [.c (.slice a_s s.length c_s),.c (.func fn_f fa_f fc_f)] Try.func102 rfl rfl rfl rfl fun t hk=>?_
 have hm:=Ah.begin h w hh
 unfold AH at H
 refine XT (Aa (Rk 0 1 [tS 0 a_s s.length c_s,(1,.one (.c (.func fn_f fa_f fc_f)))] hk hm fun m g=>?_))
 refine wf (XT (Aa (Rk 0 2 [(6,.one (.c (.func fn_f fa_f fc_f))),tS 5 a_s s.length c_s] g hm fun p i=>?_)))
 obtain⟨x7,ex7,H⟩:=Aq H
 refine wl fun K hK=>?_
 refine wc [.c (.slice a_s s.length c_s),.c (.func fn_f fa_f fc_f)] i hm (DG n hm.has s hr_s f hf_f ex7) fun q k u b l a=>?_
 obtain rfl:=b
 refine⟨.one (.c (.int .i64 x7)),rfl,fun j (d:Kn 9 [] [tI 7 x7,(6,.one (.c (.func fn_f fa_f fc_f))),tS 5 a_s s.length c_s] j)=>hK _ _ ?_⟩
 refine Rk 3 2 [tB 4 (decide (x7≥0))] d a fun o e=>?_
 refine wf (wp_ret ?_)
 obtain rfl:=XZ H
 exact rt (.one (.c (.bool (decide (x7≥0))))) e a rfl
set_option maxRecDepth 100000 in
set_option maxHeartbeats 4000000 in
theorem CW (n:Nat) {h:Ae} {w:World} (hh:Dn h w) (s:List A7) {a_s:Option Addr} {c_s:Nat} (hr_s:A6 h a_s c_s s) (f:A7→Option Bool) {fn_f:Fn} {fa_f fc_f:Array Value} (hf_f:Ug h (.func fn_f fa_f fc_f) f) {r:Bool} (H:AA n s f=some r) :
  Calls Try.prog 104 #[.slice a_s s.length c_s,.func fn_f fa_f fc_f] w (Dp (fun h v=>v=.bool r) h w):=by
 refine enter 9 [.c (.slice a_s s.length c_s),.c (.func fn_f fa_f fc_f)] Try.func104 rfl rfl rfl rfl fun t hk=>?_
 have hm:=Ah.begin h w hh
 unfold AA at H
 refine XT (Aa (Rk 0 1 [tS 0 a_s s.length c_s,(1,.one (.c (.func fn_f fa_f fc_f)))] hk hm fun m g=>?_))
 refine wf (XT (Aa (Rk 0 2 [(6,.one (.c (.func fn_f fa_f fc_f))),tS 5 a_s s.length c_s] g hm fun p i=>?_)))
 obtain⟨x7,ex7,H⟩:=Aq H
 refine wl fun K hK=>?_
 refine wc [.c (.slice a_s s.length c_s),.c (.func fn_f fa_f fc_f)] i hm (Du n hm.has s hr_s f hf_f ex7) fun q k u b l a=>?_
 obtain rfl:=b
 refine⟨.one (.c (.int .i64 x7)),rfl,fun j (d:Kn 9 [] [tI 7 x7,(6,.one (.c (.func fn_f fa_f fc_f))),tS 5 a_s s.length c_s] j)=>hK _ _ ?_⟩
 refine Rk 3 2 [tB 4 (decide (x7≥0))] d a fun o e=>?_
 refine wf (wp_ret ?_)
 obtain rfl:=XZ H
 exact rt (.one (.c (.bool (decide (x7≥0))))) e a rfl
set_option maxRecDepth 100000 in
set_option maxHeartbeats 4000000 in
theorem FV (n:Nat) {h:Ae} {w:World} (hh:Dn h w) (x:Rg) {cs_x:List Value} (hx_x:rep h x cs_x) (q0:Rg→Option Bool) {b_q0:Nat} (hb_q0:CO h b_q0 q0) {r:Bool} (H:AL n x q0=some r) :
  Calls Try.prog 101 #[.agg cs_x.toArray,.pointer (some ⟨b_q0,0,none⟩)] w (Dp (fun h v=>v=.bool r) h w):=by
 obtain⟨_,_,rfl,rfl,rfl⟩:=hx_x
 obtain⟨_,hx_q0,hc_q0⟩:=id hb_q0
 obtain⟨d,a,b,rfl,l⟩:=hx_q0
 refine H5 (e:=[(b_q0,0)]) 8 [.agg [.int .i64 x.lo,.int .i64 x.hi],.c (.ptr 0 0)] Try.func101 rfl rfl rfl rfl fun t hk=>?_
 have hm:=Ah.begin h w hh
 replace hm:=hm.addPlc (o:=0) (cs:=[.func d a b]) (fun j c hj=>by rw [Nat.zero_add]; exact hc_q0 j _ (Al hj)) rfl (by kernel_rfl) (by kernel_rfl)
 replace hm:Ah ⟨w,h,Aj⟩ h [(b_q0,0)] [⟨[.func d a b],none⟩] [] w:=hm
 unfold AL at H
 refine XT (Aa (wl fun K hK=>?_))
 refine wb (.agg [.int .i64 x.lo,.int .i64 x.hi]) hk hm fun g z aa (u:Kn 8 [(b_q0,0),(g,0)] [tP 2 1 0,tA 0 [.int .i64 x.lo,.int .i64 x.hi],tP 1 0 0] z) (f:Ah ⟨w,h,Aj⟩ h [(b_q0,0),(g,0)] [⟨[.func d a b],none⟩,⟨[.int .i64 x.lo,.int .i64 x.hi],some 39⟩] [] aa)=>hK _ _ ?_
 refine Rk 1 1 [tP 2 1 0,tP 1 0 0] u f fun ad m=>?_
 refine wf (XT (Aa (Rk 0 2 [tA 5 [.int .i64 x.lo,.int .i64 x.hi],(4,.one (.c (.func d a b)))] m f fun ae p=>?_)))
 obtain⟨x6,ex6,H⟩:=Aq H
 refine wl fun K hK=>?_
 refine DB (.func d a b) [.agg [.int .i64 x.lo,.int .i64 x.hi]] _ p f rfl rfl (by decide) (by rfl) (by rfl) rfl (l _ _ (Ae.le_refl _) f.has x _ ((Ab Ac Ac):rep h x _) _ ex6) fun ag ab ah k ac i=>?_
 obtain rfl:=k
 refine⟨.one (.c (.bool x6)),rfl,fun y (q:Kn 8 [(b_q0,0),(g,0)] [tB 6 x6,tA 5 [.int .i64 x.lo,.int .i64 x.hi],(4,.one (.c (.func d a b)))] y)=>hK _ _ ?_⟩
 refine Rk 3 2 [tB 3 (!x6)] q i fun af s=>?_
 refine wf (wp_ret ?_)
 obtain rfl:=XZ H
 exact rt (.one (.c (.bool (!x6)))) s i rfl
abbrev KU (x:Cy):List SC:=[.int .i64 x.stop,.int .i64 x.tm.lo,.int .i64 x.tm.hi]
set_option maxRecDepth 100000 in
set_option maxHeartbeats 4000000 in
theorem Gw (n:Nat) {h:Ae} {w:World} (hh:Dn h w) (x:Cy) {cs_x:List Value} (hx_x:rep h x cs_x) (q0:Cy→Option Bool) {b_q0:Nat} (hb_q0:CO h b_q0 q0) {r:Bool} (H:AY n x q0=some r) :
  Calls Try.prog 103 #[.agg cs_x.toArray,.pointer (some ⟨b_q0,0,none⟩)] w (Dp (fun h v=>v=.bool r) h w):=by
 obtain⟨_,_,rfl,rfl,⟨_,_,rfl,rfl,rfl⟩⟩:=hx_x
 obtain⟨_,hx_q0,hc_q0⟩:=id hb_q0
 obtain⟨d,a,b,rfl,l⟩:=hx_q0
 refine H5 (e:=[(b_q0,0)]) 8 [.agg (KU x),.c (.ptr 0 0)] Try.func103 rfl rfl rfl rfl fun t hk=>?_
 have hm:=Ah.begin h w hh
 replace hm:=hm.addPlc (o:=0) (cs:=[.func d a b]) (fun j c hj=>by rw [Nat.zero_add]; exact hc_q0 j _ (Al hj)) rfl (by kernel_rfl) (by kernel_rfl)
 replace hm:Ah ⟨w,h,Aj⟩ h [(b_q0,0)] [⟨[.func d a b],none⟩] [] w:=hm
 unfold AY at H
 refine XT (Aa (wl fun K hK=>?_))
 refine wb (.agg (KU x)) hk hm fun g z aa (u:Kn 8 [(b_q0,0),(g,0)] [tP 2 1 0,tA 0 (KU x),tP 1 0 0] z) (f:Ah ⟨w,h,Aj⟩ h [(b_q0,0),(g,0)] [⟨[.func d a b],none⟩,⟨KU x,some 96⟩] [] aa)=>hK _ _ ?_
 refine Rk 1 1 [tP 2 1 0,tP 1 0 0] u f fun ad m=>?_
 refine wf (XT (Aa (Rk 0 2 [tA 5 (KU x),(4,.one (.c (.func d a b)))] m f fun ae p=>?_)))
 obtain⟨x6,ex6,H⟩:=Aq H
 refine wl fun K hK=>?_
 refine DB (.func d a b) [.agg (KU x)] _ p f rfl rfl (by decide) (by rfl) (by rfl) rfl (l _ _ (Ae.le_refl _) f.has x _ ((Ab Ac (Ab Ac Ac)):rep h x _) _ ex6) fun ag ab ah k ac i=>?_
 obtain rfl:=k
 refine⟨.one (.c (.bool x6)),rfl,fun y (q:Kn 8 [(b_q0,0),(g,0)] [tB 6 x6,tA 5 (KU x),(4,.one (.c (.func d a b)))] y)=>hK _ _ ?_⟩
 refine Rk 3 2 [tB 3 (!x6)] q i fun af s=>?_
 refine wf (wp_ret ?_)
 obtain rfl:=XZ H
 exact rt (.one (.c (.bool (!x6)))) s i rfl
set_option maxRecDepth 100000 in
set_option maxHeartbeats 4000000 in
theorem FW (n:Nat) {h:Ae} {w:World} (hh:Dn h w) (x:A7) {cs_x:List Value} (hx_x:rep h x cs_x) (q0:A7→Option Bool) {b_q0:Nat} (hb_q0:CO h b_q0 q0) {r:Bool} (H:AM n x q0=some r) :
  Calls Try.prog 105 #[.agg cs_x.toArray,.pointer (some ⟨b_q0,0,none⟩)] w (Dp (fun h v=>v=.bool r) h w):=by
 obtain⟨_,_,rfl,rfl,rfl⟩:=hx_x
 obtain⟨_,hx_q0,hc_q0⟩:=id hb_q0
 obtain⟨d,a,b,rfl,l⟩:=hx_q0
 refine H5 (e:=[(b_q0,0)]) 8 [.agg [.int .i64 x.stop,.int .i64 x.tm],.c (.ptr 0 0)] Try.func105 rfl rfl rfl rfl fun t hk=>?_
 have hm:=Ah.begin h w hh
 replace hm:=hm.addPlc (o:=0) (cs:=[.func d a b]) (fun j c hj=>by rw [Nat.zero_add]; exact hc_q0 j _ (Al hj)) rfl (by kernel_rfl) (by kernel_rfl)
 replace hm:Ah ⟨w,h,Aj⟩ h [(b_q0,0)] [⟨[.func d a b],none⟩] [] w:=hm
 unfold AM at H
 refine XT (Aa (wl fun K hK=>?_))
 refine wb (.agg [.int .i64 x.stop,.int .i64 x.tm]) hk hm fun g z aa (u:Kn 8 [(b_q0,0),(g,0)] [tP 2 1 0,tA 0 [.int .i64 x.stop,.int .i64 x.tm],tP 1 0 0] z) (f:Ah ⟨w,h,Aj⟩ h [(b_q0,0),(g,0)] [⟨[.func d a b],none⟩,⟨[.int .i64 x.stop,.int .i64 x.tm],some 110⟩] [] aa)=>hK _ _ ?_
 refine Rk 1 1 [tP 2 1 0,tP 1 0 0] u f fun ad m=>?_
 refine wf (XT (Aa (Rk 0 2 [tA 5 [.int .i64 x.stop,.int .i64 x.tm],(4,.one (.c (.func d a b)))] m f fun ae p=>?_)))
 obtain⟨x6,ex6,H⟩:=Aq H
 refine wl fun K hK=>?_
 refine DB (.func d a b) [.agg [.int .i64 x.stop,.int .i64 x.tm]] _ p f rfl rfl (by decide) (by rfl) (by rfl) rfl (l _ _ (Ae.le_refl _) f.has x _ ((Ab Ac Ac):rep h x _) _ ex6) fun ag ab ah k ac i=>?_
 obtain rfl:=k
 refine⟨.one (.c (.bool x6)),rfl,fun y (q:Kn 8 [(b_q0,0),(g,0)] [tB 6 x6,tA 5 [.int .i64 x.stop,.int .i64 x.tm],(4,.one (.c (.func d a b)))] y)=>hK _ _ ?_⟩
 refine Rk 3 2 [tB 3 (!x6)] q i fun af s=>?_
 refine wf (wp_ret ?_)
 obtain rfl:=XZ H
 exact rt (.one (.c (.bool (!x6)))) s i rfl
set_option maxRecDepth 100000 in
set_option maxHeartbeats 4000000 in
theorem Gx (n:Nat) {h:Ae} {w:World} (hh:Dn h w) (l:List Rg) {a_l:Option Addr} {c_l:Nat} (hr_l:A6 h a_l c_l l) (right:Rg→Option Bool) {fn_right:Fn} {fa_right fc_right:Array Value} (hf_right:Ue h (.func fn_right fa_right fc_right) right) {r:Bool} (H:BJ n l right=some r) :
  Calls Try.prog 80 #[.slice a_l l.length c_l,.func fn_right fa_right fc_right] w (Dp (fun h v=>v=.bool r) h w):=by
 refine enter 9 [.c (.slice a_l l.length c_l),.c (.func fn_right fa_right fc_right)] Try.func80 rfl rfl rfl rfl fun t hk=>?_
 have hm:=Ah.begin h w hh
 unfold BJ at H
 refine XT (Aa (wl fun K hK=>?_))
 refine wb (.c (.func fn_right fa_right fc_right)) hk hm fun a ab m (x:Kn 9 [(a,0)] [tP 3 0 0,tS 0 a_l l.length c_l,(1,.one (.c (.func fn_right fa_right fc_right)))] ab) (f:Ah ⟨w,h,Aj⟩ h [(a,0)] [⟨[.func fn_right fa_right fc_right],some 141⟩] [] m)=>hK _ _ ?_
 refine Rk 1 1 [tP 3 0 0,tS 0 a_l l.length c_l] x f fun ah y=>?_
 refine wf (XT (Aa (Rk 0 1 [tS 5 a_l l.length c_l,tP 3 0 0] y f fun ai z=>?_)))
 obtain⟨b,j,g,d⟩:=f.settlePlc (i:=0) rfl
 replace hr_l:=hr_l.mono j
 replace hf_right:=hf_right.mono j
 replace d:Ah ⟨w,h,Aj⟩ b [(a,0)] [⟨[.func fn_right fa_right fc_right],none⟩] [] m:=d
 have p:CO b a (right:Rg→Option Bool):=CO.of (e:=[(a,0)]) (cs:=[.func fn_right fa_right fc_right]) (⟨_,_,_,rfl,hf_right⟩:rep b (right:Rg→Option Bool) _) rfl g
 have ae:AD b a [.func fn_right fa_right fc_right]:=AD.of (e:=[(a,0)]) (cs:=[.func fn_right fa_right fc_right]) rfl g
 refine H6 1 #[] #[.pointer (some ⟨a,0,none⟩)] z rfl rfl (rfl) rfl (by decide) (by rfl) (by rfl) (by rfl) (by rfl) fun aa (q:Kn 9 [(a,0)] [(6,.one (.c (.func (.func 101) #[] #[.pointer (some ⟨a,0,none⟩)]))),tS 5 a_l l.length c_l,tP 3 0 0] aa)=>?_
 obtain⟨x7,ex7,H⟩:=Aq H
 refine wl fun K hK=>?_
 refine wc [.c (.slice a_l l.length c_l),.c (.func (.func 101) #[] #[.pointer (some ⟨a,0,none⟩)])] q d (CV n d.has l hr_l (fun(y0:Rg)=>AL n y0 right) (show Ue b (.func (.func 101) #[] #[.pointer (some ⟨a,0,none⟩)]) (fun(y0:Rg)=>AL n y0 right) from fun h2 w2 hle hh y0 cs0 hy0 r H=>⟨101,_,_,rfl,fun _ _=>by kernel_rfl,FV n hh y0 hy0 right (p.mono hle) H⟩) ex7) fun aj ad ak o af k=>?_
 obtain rfl:=o
 refine⟨.one (.c (.bool x7)),rfl,fun ac (s:Kn 9 [(a,0)] [tB 7 x7,(6,.one (.c (.func (.func 101) #[] #[.pointer (some ⟨a,0,none⟩)]))),tS 5 a_l l.length c_l,tP 3 0 0] ac)=>hK _ _ ?_⟩
 refine Rk 3 2 [tB 4 (!x7)] s k fun ag u=>?_
 refine wf (wp_ret ?_)
 obtain rfl:=XZ H
 exact rt (.one (.c (.bool (!x7)))) u k rfl
set_option maxRecDepth 100000 in
set_option maxHeartbeats 4000000 in
theorem Hd (n:Nat) {h:Ae} {w:World} (hh:Dn h w) (l:List Cy) {a_l:Option Addr} {c_l:Nat} (hr_l:A6 h a_l c_l l) (right:Cy→Option Bool) {fn_right:Fn} {fa_right fc_right:Array Value} (hf_right:Uf h (.func fn_right fa_right fc_right) right) {r:Bool} (H:BW n l right=some r) :
  Calls Try.prog 82 #[.slice a_l l.length c_l,.func fn_right fa_right fc_right] w (Dp (fun h v=>v=.bool r) h w):=by
 refine enter 9 [.c (.slice a_l l.length c_l),.c (.func fn_right fa_right fc_right)] Try.func82 rfl rfl rfl rfl fun t hk=>?_
 have hm:=Ah.begin h w hh
 unfold BW at H
 refine XT (Aa (wl fun K hK=>?_))
 refine wb (.c (.func fn_right fa_right fc_right)) hk hm fun a ab m (x:Kn 9 [(a,0)] [tP 3 0 0,tS 0 a_l l.length c_l,(1,.one (.c (.func fn_right fa_right fc_right)))] ab) (f:Ah ⟨w,h,Aj⟩ h [(a,0)] [⟨[.func fn_right fa_right fc_right],some 138⟩] [] m)=>hK _ _ ?_
 refine Rk 1 1 [tP 3 0 0,tS 0 a_l l.length c_l] x f fun ah y=>?_
 refine wf (XT (Aa (Rk 0 1 [tS 5 a_l l.length c_l,tP 3 0 0] y f fun ai z=>?_)))
 obtain⟨b,j,g,d⟩:=f.settlePlc (i:=0) rfl
 replace hr_l:=hr_l.mono j
 replace hf_right:=hf_right.mono j
 replace d:Ah ⟨w,h,Aj⟩ b [(a,0)] [⟨[.func fn_right fa_right fc_right],none⟩] [] m:=d
 have p:CO b a (right:Cy→Option Bool):=CO.of (e:=[(a,0)]) (cs:=[.func fn_right fa_right fc_right]) (⟨_,_,_,rfl,hf_right⟩:rep b (right:Cy→Option Bool) _) rfl g
 have ae:AD b a [.func fn_right fa_right fc_right]:=AD.of (e:=[(a,0)]) (cs:=[.func fn_right fa_right fc_right]) rfl g
 refine H6 1 #[] #[.pointer (some ⟨a,0,none⟩)] z rfl rfl (rfl) rfl (by decide) (by rfl) (by rfl) (by rfl) (by rfl) fun aa (q:Kn 9 [(a,0)] [(6,.one (.c (.func (.func 103) #[] #[.pointer (some ⟨a,0,none⟩)]))),tS 5 a_l l.length c_l,tP 3 0 0] aa)=>?_
 obtain⟨x7,ex7,H⟩:=Aq H
 refine wl fun K hK=>?_
 refine wc [.c (.slice a_l l.length c_l),.c (.func (.func 103) #[] #[.pointer (some ⟨a,0,none⟩)])] q d (D3 n d.has l hr_l (fun(y0:Cy)=>AY n y0 right) (show Uf b (.func (.func 103) #[] #[.pointer (some ⟨a,0,none⟩)]) (fun(y0:Cy)=>AY n y0 right) from fun h2 w2 hle hh y0 cs0 hy0 r H=>⟨103,_,_,rfl,fun _ _=>by kernel_rfl,Gw n hh y0 hy0 right (p.mono hle) H⟩) ex7) fun aj ad ak o af k=>?_
 obtain rfl:=o
 refine⟨.one (.c (.bool x7)),rfl,fun ac (s:Kn 9 [(a,0)] [tB 7 x7,(6,.one (.c (.func (.func 103) #[] #[.pointer (some ⟨a,0,none⟩)]))),tS 5 a_l l.length c_l,tP 3 0 0] ac)=>hK _ _ ?_⟩
 refine Rk 3 2 [tB 4 (!x7)] s k fun ag u=>?_
 refine wf (wp_ret ?_)
 obtain rfl:=XZ H
 exact rt (.one (.c (.bool (!x7)))) u k rfl
set_option maxRecDepth 100000 in
set_option maxHeartbeats 4000000 in
theorem Gy (n:Nat) {h:Ae} {w:World} (hh:Dn h w) (l:List A7) {a_l:Option Addr} {c_l:Nat} (hr_l:A6 h a_l c_l l) (right:A7→Option Bool) {fn_right:Fn} {fa_right fc_right:Array Value} (hf_right:Ug h (.func fn_right fa_right fc_right) right) {r:Bool} (H:BK n l right=some r) :
  Calls Try.prog 83 #[.slice a_l l.length c_l,.func fn_right fa_right fc_right] w (Dp (fun h v=>v=.bool r) h w):=by
 refine enter 9 [.c (.slice a_l l.length c_l),.c (.func fn_right fa_right fc_right)] Try.func83 rfl rfl rfl rfl fun t hk=>?_
 have hm:=Ah.begin h w hh
 unfold BK at H
 refine XT (Aa (wl fun K hK=>?_))
 refine wb (.c (.func fn_right fa_right fc_right)) hk hm fun a ab m (x:Kn 9 [(a,0)] [tP 3 0 0,tS 0 a_l l.length c_l,(1,.one (.c (.func fn_right fa_right fc_right)))] ab) (f:Ah ⟨w,h,Aj⟩ h [(a,0)] [⟨[.func fn_right fa_right fc_right],some 139⟩] [] m)=>hK _ _ ?_
 refine Rk 1 1 [tP 3 0 0,tS 0 a_l l.length c_l] x f fun ah y=>?_
 refine wf (XT (Aa (Rk 0 1 [tS 5 a_l l.length c_l,tP 3 0 0] y f fun ai z=>?_)))
 obtain⟨b,j,g,d⟩:=f.settlePlc (i:=0) rfl
 replace hr_l:=hr_l.mono j
 replace hf_right:=hf_right.mono j
 replace d:Ah ⟨w,h,Aj⟩ b [(a,0)] [⟨[.func fn_right fa_right fc_right],none⟩] [] m:=d
 have p:CO b a (right:A7→Option Bool):=CO.of (e:=[(a,0)]) (cs:=[.func fn_right fa_right fc_right]) (⟨_,_,_,rfl,hf_right⟩:rep b (right:A7→Option Bool) _) rfl g
 have ae:AD b a [.func fn_right fa_right fc_right]:=AD.of (e:=[(a,0)]) (cs:=[.func fn_right fa_right fc_right]) rfl g
 refine H6 1 #[] #[.pointer (some ⟨a,0,none⟩)] z rfl rfl (rfl) rfl (by decide) (by rfl) (by rfl) (by rfl) (by rfl) fun aa (q:Kn 9 [(a,0)] [(6,.one (.c (.func (.func 105) #[] #[.pointer (some ⟨a,0,none⟩)]))),tS 5 a_l l.length c_l,tP 3 0 0] aa)=>?_
 obtain⟨x7,ex7,H⟩:=Aq H
 refine wl fun K hK=>?_
 refine wc [.c (.slice a_l l.length c_l),.c (.func (.func 105) #[] #[.pointer (some ⟨a,0,none⟩)])] q d (CW n d.has l hr_l (fun(y0:A7)=>AM n y0 right) (show Ug b (.func (.func 105) #[] #[.pointer (some ⟨a,0,none⟩)]) (fun(y0:A7)=>AM n y0 right) from fun h2 w2 hle hh y0 cs0 hy0 r H=>⟨105,_,_,rfl,fun _ _=>by kernel_rfl,FW n hh y0 hy0 right (p.mono hle) H⟩) ex7) fun aj ad ak o af k=>?_
 obtain rfl:=o
 refine⟨.one (.c (.bool x7)),rfl,fun ac (s:Kn 9 [(a,0)] [tB 7 x7,(6,.one (.c (.func (.func 105) #[] #[.pointer (some ⟨a,0,none⟩)]))),tS 5 a_l l.length c_l,tP 3 0 0] ac)=>hK _ _ ?_⟩
 refine Rk 3 2 [tB 4 (!x7)] s k fun ag u=>?_
 refine wf (wp_ret ?_)
 obtain rfl:=XZ H
 exact rt (.one (.c (.bool (!x7)))) u k rfl
abbrev JL (k:Option Addr) (r_:Af) (o:Nat) (l:Option Addr) (p:Nat) (m:Option Addr) (q:Nat):List SC:=[.slice k r_.legs.length o,.int .i64 r_.turn.lo,.int .i64 r_.turn.hi,.slice l r_.buses.length p,.slice m r_.spares.length q,.int .i64 r_.unit,.int .i64 r_.gap,.int .i64 r_.fr,.int .i64 r_.to_]
abbrev Ek (a:Nat):TM:=[(4,.one (.c (.func (.func 77) #[] #[.pointer (some ⟨a,0,none⟩)]))),(3,.one (.c (.func (.func 75) #[] #[.pointer (some ⟨a,0,none⟩)]))),tP 1 0 0]
abbrev Rq (a:Nat):TM:=[(4,.one (.c (.func (.func 77) #[] #[.pointer (some ⟨a,0,none⟩)]))),tP 1 0 0]
set_option maxRecDepth 100000 in
set_option maxHeartbeats 4000000 in
theorem Ea (n:Nat) {h:Ae} {w:World} (hh:Dn h w) (r_:Af) {cs_r_:List Value} (hx_r_:rep h r_ cs_r_) {r:Int} (H:BM n r_=some r) :
  Calls Try.prog 50 #[.agg cs_r_.toArray] w (Dp (fun h v=>v=.int .i64 r) h w):=by
 obtain⟨_,_,rfl,⟨k,o,rfl,d⟩,⟨_,_,rfl,⟨_,_,rfl,rfl,rfl⟩,⟨_,_,rfl,⟨l,p,rfl,f⟩,⟨_,_,rfl,⟨m,q,rfl,g⟩,⟨_,_,rfl,rfl,⟨_,_,rfl,rfl,⟨_,_,rfl,rfl,rfl⟩⟩⟩⟩⟩⟩⟩:=hx_r_
 refine enter 85 [.agg (JL k r_ o l p m q)] Try.func50 rfl rfl rfl rfl fun t hk=>?_
 have hm:=Ah.begin h w hh
 unfold BM at H
 refine XT (Aa (wl fun K hK=>?_))
 refine wb (.agg (JL k r_ o l p m q)) hk hm fun a ef ch (c4:Kn 85 [(a,0)] [tP 1 0 0,tA 0 (JL k r_ o l p m q)] ef) (b4:Ah ⟨w,h,Aj⟩ h [(a,0)] [⟨JL k r_ o l p m q,some 43⟩] [] ch)=>hK _ _ ?_
 refine Rk 1 1 [tP 1 0 0] c4 b4 fun e4 da=>?_
 refine wf (XT (Aa ?_))
 obtain⟨ak,bc,bf,y⟩:=b4.settlePlc (i:=0) rfl
 replace d:=d.mono bc
 replace f:=f.mono bc
 replace g:=g.mono bc
 replace y:Ah ⟨w,h,Aj⟩ ak [(a,0)] [⟨JL k r_ o l p m q,none⟩] [] ch:=y
 have j:CO ak a (r_:Af):=CO.of (e:=[(a,0)]) (cs:=(JL k r_ o l p m q)) ((Ab (Ad d) (Ab (Ab Ac Ac) (Ab (Ad f) (Ab (Ad g) (Ab Ac (Ab Ac (Ab Ac Ac))))))):rep ak (r_:Af) _) rfl bf
 have s:AD ak a [.slice k r_.legs.length o,.int .i64 r_.turn.lo,.int .i64 r_.turn.hi,.slice l r_.buses.length p,.slice m r_.spares.length q,.int .i64 r_.unit,.int .i64 r_.gap,.int .i64 r_.fr,.int .i64 r_.to_]:=AD.of (e:=[(a,0)]) (cs:=[.slice k r_.legs.length o,.int .i64 r_.turn.lo,.int .i64 r_.turn.hi,.slice l r_.buses.length p,.slice m r_.spares.length q,.int .i64 r_.unit,.int .i64 r_.gap,.int .i64 r_.fr,.int .i64 r_.to_]) rfl bf
 refine H6 0 #[] #[.pointer (some ⟨a,0,none⟩)] da rfl rfl (rfl) rfl (by decide) (by rfl) (by rfl) (by rfl) (by rfl) fun em (dt:Kn 85 [(a,0)] [(5,.one (.c (.func (.func 75) #[] #[.pointer (some ⟨a,0,none⟩)]))),tP 1 0 0] em)=>?_
 refine Rk 1 1 [(3,.one (.c (.func (.func 75) #[] #[.pointer (some ⟨a,0,none⟩)]))),tP 1 0 0] dt y fun fj du=>?_
 refine wf (XT (Aa (H6 0 #[] #[.pointer (some ⟨a,0,none⟩)] du rfl rfl (rfl) rfl (by decide) (by rfl) (by rfl) (by rfl) (by rfl) fun en (dv:Kn 85 [(a,0)] [(6,.one (.c (.func (.func 77) #[] #[.pointer (some ⟨a,0,none⟩)]))),(3,.one (.c (.func (.func 75) #[] #[.pointer (some ⟨a,0,none⟩)]))),tP 1 0 0] en)=>?_)))
 refine Rk 1 1 (Ek a) dv y fun fk dw=>?_
 refine wf (XT (wp_block (XT ?_)))
 obtain⟨b5,a4,H⟩:=Aq H
 refine Av (fun a' w'=>∃ (bd:Array Value)(al:Ae),a' = ⟨bd,[]⟩∧Kn 85 [(a,0)] [(4,.one (.c (.func (.func 77) #[] #[.pointer (some ⟨a,0,none⟩)]))),(3,.one (.c (.func (.func 75) #[] #[.pointer (some ⟨a,0,none⟩)]))),tP 1 0 0,tB 7 b5] bd∧Ah ⟨w,h,Aj⟩ al [(a,0)] [⟨JL k r_ o l p m q,none⟩] [] w'∧Ae.le ak al) ?_ ?_
 ·
  refine Aa (Rk 0 5 ((tB 12 (decide (((r_.buses.length:Nat):Int)>4)))::(Ek a)) dw y fun cd bv=>?_)
  rcases Bool.eq_false_or_eq_true (decide (((r_.buses.length:Nat):Int)>4)) with au | au
  ·
   rw [au,XW] at a4
   have dx:Kn 85 [(a,0)] ((tB 12 true)::(Ek a)) cd:=(bv.setB 12 true (by rfl) au).kp
   refine Rk 5 6 ((tB 7 true)::(Ek a)) dx y fun fl dy=>?_
   refine wf ?_
   obtain rfl:=XZ a4
   exact XY _ ⟨_,rfl,dy.kp,y,Ae.le_refl _⟩
  ·
   rw [au,XV] at a4
   have dz:Kn 85 [(a,0)] ((tB 12 false)::(Ek a)) cd:=(bv.setB 12 false (by rfl) au).kp
   refine Rk 5 6 ((tB 7 (decide (((r_.spares.length:Nat):Int)>2)))::(Ek a)) dz y fun fm d0=>?_
   refine wf ?_
   obtain rfl:=XZ a4
   exact XY _ ⟨_,rfl,d0.kp,y,Ae.le_refl _⟩
 ·
  rintro _ gb ⟨bd,al,rfl,bb,ab,a2⟩
  replace d:=d.mono a2
  replace f:=f.mono a2
  replace g:=g.mono a2
  replace j:=j.mono a2
  replace s:=s.mono a2
  refine wC (b5) bb (fun a8=>?_) (fun a8=>?_)
  ·
   rw [a8,XW] at H
   refine XT (Aa (Rk 0 1 [tI 2 3] bb ab fun fn d1=>?_))
   refine wf (wp_ret ?_)
   obtain rfl:=XZ H
   exact rt (.one (.c (.int .i64 3))) d1 ab rfl
  ·
   rw [a8,XV] at H
   refine XT ?_
   obtain⟨b6,b,H⟩:=Aq H
   refine Av (fun a' w'=>∃ (be:Array Value)(a5:Ae),a' = ⟨be,[]⟩∧Kn 85 [(a,0)] [tP 1 0 0,tB 18 b6] be∧Ah ⟨w,h,Aj⟩ a5 [(a,0)] [⟨JL k r_ o l p m q,none⟩] [] w'∧Ae.le al a5) ?_ ?_
   ·
    refine Aa (Rk 0 6 ((tB 24 ((Int.tmod ((r_.legs.length:Nat):Int) 2) == 0))::(Ek a)) bb ab fun ce bw=>?_)
    rcases Bool.eq_false_or_eq_true (((Int.tmod ((r_.legs.length:Nat):Int) 2) == 0)) with av | av
    ·
     rw [av,XW] at b
     have d2:Kn 85 [(a,0)] ((tB 24 true)::(Ek a)) ce:=(bw.setB 24 true (by rfl) av).kp
     refine Rk 6 31 [tB 18 true,tP 1 0 0] d2 ab fun fo d3=>?_
     refine wf ?_
     obtain rfl:=XZ b
     exact XY _ ⟨_,rfl,d3.kp,ab,Ae.le_refl _⟩
    ·
     rw [av,XV] at b
     have d4:Kn 85 [(a,0)] ((tB 24 false)::(Ek a)) ce:=(bw.setB 24 false (by rfl) av).kp
     refine Rk 6 1 ((tA 25 (JL k r_ o l p m q))::(tB 24 false)::(Ek a)) d4 ab fun fp bx=>?_
     obtain⟨x26,ex26,b⟩:=Aq b
     refine AS _ rfl (Ak bx (by kernel_rfl)) fun K hK=>?_
     refine wc [.agg (JL k r_ o l p m q)] bx ab (DF n ab.has r_ ((Ab (Ad d) (Ab (Ab Ac Ac) (Ab (Ad f) (Ab (Ad g) (Ab Ac (Ab Ac (Ab Ac Ac))))))):rep al r_ _) ex26) fun f1 ct gc co u ai=>?_
     replace d:=d.mono u
     replace f:=f.mono u
     replace g:=g.mono u
     replace j:=j.mono u
     replace s:=s.mono u
     obtain rfl:=co
     refine⟨.one (.c (.int .i64 x26)),rfl,fun eo (d5:Kn 85 [(a,0)] ((tI 26 x26)::(tA 25 (JL k r_ o l p m q))::(tB 24 false)::(Ek a)) eo)=>hK _ _ ?_⟩
     refine Rk 8 3 ((tB 29 (decide (x26>4)))::(Ek a)) d5 ai fun cf bz=>?_
     rcases Bool.eq_false_or_eq_true (decide (x26>4)) with aw | aw
     ·
      rw [aw,XW] at b
      have d6:Kn 85 [(a,0)] ((tB 29 true)::(Ek a)) cf:=(bz.setB 29 true (by rfl) aw).kp
      refine Rk 11 26 [tB 18 true,tP 1 0 0] d6 ai fun fq d7=>?_
      refine wf ?_
      obtain rfl:=XZ b
      exact XY _ ⟨_,rfl,d7.kp,ai,u⟩
     ·
      rw [aw,XV] at b
      have d8:Kn 85 [(a,0)] ((tB 29 false)::(Ek a)) cf:=(bz.setB 29 false (by rfl) aw).kp
      refine Rk 11 2 ((tS 31 k r_.legs.length o)::(tB 29 false)::(Ek a)) d8 ai fun fs b0=>?_
      obtain⟨x32,ex32,b⟩:=Aq b
      refine AS _ rfl (Ak b0 (by kernel_rfl)) fun K hK=>?_
      refine wc [.c (.slice k r_.legs.length o),.c (.func (.func 81) #[] #[])] b0 ai (Gx n ai.has r_.legs d (fun(y0:Rg)=>B0 n y0) (show Ue ct (.func (.func 81) #[] #[]) (fun(y0:Rg)=>B0 n y0) from fun h2 w2 hle hh y0 cs0 hy0 r H=>⟨81,_,_,rfl,fun _ _=>by kernel_rfl,F9 n hh y0 hy0 H⟩) ex32) fun f2 cu gd cp x aj=>?_
      replace d:=d.mono x
      replace f:=f.mono x
      replace g:=g.mono x
      replace j:=j.mono x
      replace s:=s.mono x
      obtain rfl:=cp
      refine⟨.one (.c (.bool x32)),rfl,fun ep (d9:Kn 85 [(a,0)] ((tB 32 x32)::(tS 31 k r_.legs.length o)::(tB 29 false)::(Ek a)) ep)=>hK _ _ ?_⟩
      refine Rk 14 3 ((tB 35 (!x32))::(Ek a)) d9 aj fun cg b1=>?_
      rcases Bool.eq_false_or_eq_true ((!x32)) with ax | ax
      ·
       rw [ax,XW] at b
       have ea:Kn 85 [(a,0)] ((tB 35 true)::(Ek a)) cg:=(b1.setB 35 true (by rfl) ax).kp
       refine Rk 17 20 [tB 18 true,tP 1 0 0] ea aj fun ft eb=>?_
       refine wf ?_
       obtain rfl:=XZ b
       exact XY _ ⟨_,rfl,eb.kp,aj,XU u x⟩
      ·
       rw [ax,XV] at b
       have ec:Kn 85 [(a,0)] ((tB 35 false)::(Ek a)) cg:=(b1.setB 35 false (by rfl) ax).kp
       refine Rk 17 2 ((tA 37 [.int .i64 r_.turn.lo,.int .i64 r_.turn.hi])::(tB 35 false)::(Ek a)) ec aj fun fu b2=>?_
       obtain⟨x38,ex38,b⟩:=Aq b
       refine AS _ rfl (Ak b2 (by kernel_rfl)) fun K hK=>?_
       refine wc [.agg [.int .i64 r_.turn.lo,.int .i64 r_.turn.hi]] b2 aj (F9 n aj.has r_.turn ((Ab Ac Ac):rep cu r_.turn _) ex38) fun f3 cv gf cq aa ag=>?_
       replace d:=d.mono aa
       replace f:=f.mono aa
       replace g:=g.mono aa
       replace j:=j.mono aa
       replace s:=s.mono aa
       obtain rfl:=cq
       refine⟨.one (.c (.bool x38)),rfl,fun ee (cw:Kn 85 [(a,0)] ((tB 38 x38)::(tA 37 [.int .i64 r_.turn.lo,.int .i64 r_.turn.hi])::(tB 35 false)::(Ek a)) ee)=>hK _ _ ?_⟩
       refine Rk 20 3 ((tB 41 (!x38))::(Ek a)) cw ag fun b7 bg=>?_
       rcases Bool.eq_false_or_eq_true ((!x38)) with am | am
       ·
        rw [am,XW] at b
        have cx:Kn 85 [(a,0)] ((tB 41 true)::(Ek a)) b7:=(bg.setB 41 true (by rfl) am).kp
        refine Rk 23 14 [tB 18 true,tP 1 0 0] cx ag fun ex cy=>?_
        refine wf ?_
        obtain rfl:=XZ b
        exact XY _ ⟨_,rfl,cy.kp,ag,XU u (XU x aa)⟩
       ·
        rw [am,XV] at b
        have cz:Kn 85 [(a,0)] ((tB 41 false)::(Ek a)) b7:=(bg.setB 41 false (by rfl) am).kp
        refine Rk 23 3 ((44,.one (.c (.func (.func 75) #[] #[.pointer (some ⟨a,0,none⟩)])))::(tS 43 l r_.buses.length p)::(tB 41 false)::(Rq a)) cz ag fun ey bh=>?_
        obtain⟨x45,ex45,b⟩:=Aq b
        refine AS _ rfl (Ak bh (by kernel_rfl)) fun K hK=>?_
        refine wc [.c (.slice l r_.buses.length p),.c (.func (.func 75) #[] #[.pointer (some ⟨a,0,none⟩)])] bh ag (Hd n ag.has r_.buses f (fun(y0:Cy)=>B4 n y0 r_) (show Uf cv (.func (.func 75) #[] #[.pointer (some ⟨a,0,none⟩)]) (fun(y0:Cy)=>B4 n y0 r_) from fun h2 w2 hle hh y0 cs0 hy0 r H=>⟨75,_,_,rfl,fun _ _=>by kernel_rfl,HA n hh y0 hy0 r_ (j.mono hle) H⟩) ex45) fun fv cr f4 ci ac ah=>?_
        replace d:=d.mono ac
        replace f:=f.mono ac
        replace g:=g.mono ac
        replace j:=j.mono ac
        replace s:=s.mono ac
        obtain rfl:=ci
        refine⟨.one (.c (.bool x45)),rfl,fun eg (c0:Kn 85 [(a,0)] ((tB 45 x45)::(44,.one (.c (.func (.func 75) #[] #[.pointer (some ⟨a,0,none⟩)])))::(tS 43 l r_.buses.length p)::(tB 41 false)::(Rq a)) eg)=>hK _ _ ?_⟩
        refine Rk 27 3 ((tB 48 (!x45))::(Rq a)) c0 ah fun b8 bi=>?_
        rcases Bool.eq_false_or_eq_true ((!x45)) with an | an
        ·
         rw [an,XW] at b
         have c1:Kn 85 [(a,0)] ((tB 48 true)::(Rq a)) b8:=(bi.setB 48 true (by rfl) an).kp
         refine Rk 30 7 [tB 18 true,tP 1 0 0] c1 ah fun ez c2=>?_
         refine wf ?_
         obtain rfl:=XZ b
         exact XY _ ⟨_,rfl,c2.kp,ah,XU u (XU x (XU aa ac))⟩
        ·
         rw [an,XV] at b
         have c3:Kn 85 [(a,0)] ((tB 48 false)::(Rq a)) b8:=(bi.setB 48 false (by rfl) an).kp
         refine Rk 30 3 [(51,.one (.c (.func (.func 77) #[] #[.pointer (some ⟨a,0,none⟩)]))),tS 50 m r_.spares.length q,tB 48 false,tP 1 0 0] c3 ah fun e0 bj=>?_
         obtain⟨x52,ex52,b⟩:=Aq b
         refine AS _ rfl (Ak bj (by kernel_rfl)) fun K hK=>?_
         refine wc [.c (.slice m r_.spares.length q),.c (.func (.func 77) #[] #[.pointer (some ⟨a,0,none⟩)])] bj ah (Gy n ah.has r_.spares g (fun(y0:A7)=>B5 n y0 r_) (show Ug cr (.func (.func 77) #[] #[.pointer (some ⟨a,0,none⟩)]) (fun(y0:A7)=>B5 n y0 r_) from fun h2 w2 hle hh y0 cs0 hy0 r H=>⟨77,_,_,rfl,fun _ _=>by kernel_rfl,HB n hh y0 hy0 r_ (j.mono hle) H⟩) ex52) fun fw er f5 cj ed b3=>?_
         obtain rfl:=cj
         refine⟨.one (.c (.bool x52)),rfl,fun eh (c5:Kn 85 [(a,0)] [tB 52 x52,(51,.one (.c (.func (.func 77) #[] #[.pointer (some ⟨a,0,none⟩)]))),tS 50 m r_.spares.length q,tB 48 false,tP 1 0 0] eh)=>hK _ _ ?_⟩
         refine Rk 34 3 [tB 18 (!x52),tP 1 0 0] c5 b3 fun e1 c6=>?_
         refine wf ?_
         obtain rfl:=XZ b
         exact XY _ ⟨_,rfl,c6.kp,b3,XU u (XU x (XU aa (XU ac ed)))⟩
   ·
    rintro _ f6 ⟨be,a5,rfl,a9,a3,ay⟩
    replace d:=d.mono ay
    replace f:=f.mono ay
    replace g:=g.mono ay
    replace j:=j.mono ay
    replace s:=s.mono ay
    refine wC (b6) a9 (fun a6=>?_) (fun a6=>?_)
    ·
     rw [a6,XW] at H
     refine XT (Aa (Rk 0 1 [tI 2 1] a9 a3 fun e2 c7=>?_))
     refine wf (wp_ret ?_)
     obtain rfl:=XZ H
     exact rt (.one (.c (.int .i64 1))) c7 a3 rfl
    ·
     rw [a6,XV] at H
     refine XT (Aa (Rk 0 2 [tI 57 r_.unit,tP 1 0 0] a9 a3 fun e3 c8=>?_))
     obtain⟨x58,ex58,H⟩:=Aq H
     refine wl fun K hK=>?_
     refine wc [.c (.int .i64 r_.unit),.c (.int .i64 1),.c (.int .i64 30)] c8 a3 (C6 n a3.has r_.unit 1 30 ex58) fun fx es f7 ck az ad=>?_
     replace d:=d.mono az
     replace f:=f.mono az
     replace g:=g.mono az
     replace j:=j.mono az
     replace s:=s.mono az
     obtain rfl:=ck
     refine⟨.one (.c (.bool x58)),rfl,fun ei (c9:Kn 85 [(a,0)] [tB 58 x58,tI 57 r_.unit,tP 1 0 0] ei)=>hK _ _ ?_⟩
     refine Rk 3 2 [tB 60 (!x58),tP 1 0 0] c9 ad fun b9 bk=>?_
     rcases Bool.eq_false_or_eq_true ((!x58)) with ao | ao
     ·
      rw [ao,XW] at H
      have db:Kn 85 [(a,0)] [tB 60 true,tP 1 0 0] b9:=(bk.setB 60 true (by rfl) ao).kp
      refine Rk 5 25 [tB 55 true] db ad fun e5 bl=>?_
      refine wf (wC true bl (fun hb=>?_) (fun hb=>?_))
      rotate_left
      ·
       cases hb
      refine XT (Aa (Rk 0 1 [tI 2 1] bl ad fun e6 dc=>?_))
      refine wf (wp_ret ?_)
      obtain rfl:=XZ H
      exact rt (.one (.c (.int .i64 1))) dc ad rfl
     ·
      rw [ao,XV] at H
      have dd:Kn 85 [(a,0)] [tB 60 false,tP 1 0 0] b9:=(bk.setB 60 false (by rfl) ao).kp
      refine Rk 5 2 [tI 62 r_.gap,tB 60 false,tP 1 0 0] dd ad fun e7 bm=>?_
      obtain⟨x63,ex63,H⟩:=Aq H
      refine AS _ rfl (Ak bm (by kernel_rfl)) fun K hK=>?_
      refine wc [.c (.int .i64 r_.gap)] bm ad (Ej n ad.has r_.gap ex63) fun fy et f8 cl a0 ae=>?_
      replace d:=d.mono a0
      replace f:=f.mono a0
      replace g:=g.mono a0
      replace j:=j.mono a0
      replace s:=s.mono a0
      obtain rfl:=cl
      refine⟨.one (.c (.bool x63)),rfl,fun ej (de:Kn 85 [(a,0)] [tB 63 x63,tI 62 r_.gap,tB 60 false,tP 1 0 0] ej)=>hK _ _ ?_⟩
      refine Rk 8 3 [tB 66 (!x63),tP 1 0 0] de ae fun ca bn=>?_
      rcases Bool.eq_false_or_eq_true ((!x63)) with ap | ap
      ·
       rw [ap,XW] at H
       have df:Kn 85 [(a,0)] [tB 66 true,tP 1 0 0] ca:=(bn.setB 66 true (by rfl) ap).kp
       refine Rk 11 19 [tB 55 true] df ae fun e8 bo=>?_
       refine wf (wC true bo (fun hb=>?_) (fun hb=>?_))
       rotate_left
       ·
        cases hb
       refine XT (Aa (Rk 0 1 [tI 2 1] bo ae fun e9 dg=>?_))
       refine wf (wp_ret ?_)
       obtain rfl:=XZ H
       exact rt (.one (.c (.int .i64 1))) dg ae rfl
      ·
       rw [ap,XV] at H
       have dh:Kn 85 [(a,0)] [tB 66 false,tP 1 0 0] ca:=(bn.setB 66 false (by rfl) ap).kp
       refine Rk 11 2 [tI 68 r_.fr,tB 66 false,tP 1 0 0] dh ae fun fa bp=>?_
       obtain⟨x69,ex69,H⟩:=Aq H
       refine AS _ rfl (Ak bp (by kernel_rfl)) fun K hK=>?_
       refine wc [.c (.int .i64 r_.fr)] bp ae (Ej n ae.has r_.fr ex69) fun fz eu f9 cm a1 af=>?_
       replace d:=d.mono a1
       replace f:=f.mono a1
       replace g:=g.mono a1
       replace j:=j.mono a1
       replace s:=s.mono a1
       obtain rfl:=cm
       refine⟨.one (.c (.bool x69)),rfl,fun ek (di:Kn 85 [(a,0)] [tB 69 x69,tI 68 r_.fr,tB 66 false,tP 1 0 0] ek)=>hK _ _ ?_⟩
       refine Rk 14 3 [tB 72 (!x69),tP 1 0 0] di af fun cb bq=>?_
       rcases Bool.eq_false_or_eq_true ((!x69)) with aq | aq
       ·
        rw [aq,XW] at H
        have dj:Kn 85 [(a,0)] [tB 72 true,tP 1 0 0] cb:=(bq.setB 72 true (by rfl) aq).kp
        refine Rk 17 13 [tB 55 true] dj af fun fb br=>?_
        refine wf (wC true br (fun hb=>?_) (fun hb=>?_))
        rotate_left
        ·
         cases hb
        refine XT (Aa (Rk 0 1 [tI 2 1] br af fun fc dk=>?_))
        refine wf (wp_ret ?_)
        obtain rfl:=XZ H
        exact rt (.one (.c (.int .i64 1))) dk af rfl
       ·
        rw [aq,XV] at H
        have dl:Kn 85 [(a,0)] [tB 72 false,tP 1 0 0] cb:=(bq.setB 72 false (by rfl) aq).kp
        refine Rk 17 2 [tI 74 r_.to_,tB 72 false,tP 1 0 0] dl af fun fd bs=>?_
        obtain⟨x75,ex75,H⟩:=Aq H
        refine AS _ rfl (Ak bs (by kernel_rfl)) fun K hK=>?_
        refine wc [.c (.int .i64 r_.to_)] bs af (Ej n af.has r_.to_ ex75) fun f0 ev ga cn ew z=>?_
        obtain rfl:=cn
        refine⟨.one (.c (.bool x75)),rfl,fun el (dm:Kn 85 [(a,0)] [tB 75 x75,tI 74 r_.to_,tB 72 false,tP 1 0 0] el)=>hK _ _ ?_⟩
        refine Rk 20 3 [tB 78 (!x75),tP 1 0 0] dm z fun cc bt=>?_
        rcases Bool.eq_false_or_eq_true ((!x75)) with ar | ar
        ·
         rw [ar,XW] at H
         have dn:Kn 85 [(a,0)] [tB 78 true,tP 1 0 0] cc:=(bt.setB 78 true (by rfl) ar).kp
         refine Rk 23 7 [tB 55 true] dn z fun fe bu=>?_
         refine wf (wC true bu (fun hb=>?_) (fun hb=>?_))
         rotate_left
         ·
          cases hb
         refine XT (Aa (Rk 0 1 [tI 2 1] bu z fun ff dp=>?_))
         refine wf (wp_ret ?_)
         obtain rfl:=XZ H
         exact rt (.one (.c (.int .i64 1))) dp z rfl
        ·
         rw [ar,XV] at H
         have dq:Kn 85 [(a,0)] [tB 78 false,tP 1 0 0] cc:=(bt.setB 78 false (by rfl) ar).kp
         refine Rk 23 7 [tB 55 (decide (r_.fr>r_.to_))] dq z fun fg ba=>?_
         refine wf (wC (decide (r_.fr>r_.to_)) ba (fun a7=>?_) (fun a7=>?_))
         ·
          rw [a7,XW] at H
          refine XT (Aa (Rk 0 1 [tI 2 1] ba z fun fh dr=>?_))
          refine wf (wp_ret ?_)
          obtain rfl:=XZ H
          exact rt (.one (.c (.int .i64 1))) dr z rfl
         ·
          rw [a7,XV] at H
          refine wp_skip (XT (Aa (Rk 0 1 [tI 2 0] ba z fun fi ds=>?_)))
          refine wf (wp_ret ?_)
          obtain rfl:=XZ H
          exact rt (.one (.c (.int .i64 0))) ds z rfl
abbrev EN (x44:Cy):List SC:=[.int .i64 x44.stop,.int .i64 x44.tm.lo,.int .i64 x44.tm.hi]
abbrev Hs (o:Option Addr) (a:Am) (q:Nat) (p:Option Addr) (s:Nat) (y:Option Addr) (z:Nat):List SC:=[.slice o a.holds.length q,.slice p a.turns.length s,.slice y a.spares.length z]
abbrev Rr (e f u x:Nat) (x_v10:Int) (aa ad ag:Nat):Ba:=[(e,0),(f,0),(u,x+(x_v10:Int).toNat*3),(aa,0),(ad,ag+(x_v10:Int).toNat*1)]
abbrev E5 (g:Option Addr) (r_:Af) (k:Nat) (b:Option Addr) (d:Nat) (i:Option Addr) (l:Nat):List SC:=[.slice g r_.legs.length k,.int .i64 r_.turn.lo,.int .i64 r_.turn.hi,.slice b r_.buses.length d,.slice i r_.spares.length l,.int .i64 r_.unit,.int .i64 r_.gap,.int .i64 r_.fr,.int .i64 r_.to_]
abbrev EO (x_v10:Int) (r_:Af) (b:Option Addr) (d:Nat):TM:=[tI 41 x_v10,tI 40 ((r_.buses.length:Nat):Int),tS 39 b r_.buses.length d,tP 3 1 0,tP 2 0 0]
abbrev G6:TM:=[tP 3 1 0,tP 2 0 0]
set_option maxRecDepth 100000 in
set_option maxHeartbeats 4000000 in
theorem Ja (n:Nat) {h:Ae} {w:World} (hh:Dn h w) (r_:Af) {cs_r_:List Value} (hx_r_:rep h r_ cs_r_) (a:Am) {cs_a:List Value} (hx_a:rep h a cs_a) {r:Int} (H:EV n r_ a=some r) :
  Calls Try.prog 63 #[.agg cs_r_.toArray,.agg cs_a.toArray] w (Dp (fun h v=>v=.int .i64 r) h w):=by
 obtain⟨_,_,rfl,⟨g,k,rfl,ae⟩,⟨_,_,rfl,⟨_,_,rfl,rfl,rfl⟩,⟨_,_,rfl,⟨b,d,rfl,ac⟩,⟨_,_,rfl,⟨i,l,rfl,af⟩,⟨_,_,rfl,rfl,⟨_,_,rfl,rfl,⟨_,_,rfl,rfl,rfl⟩⟩⟩⟩⟩⟩⟩:=hx_r_
 obtain⟨_,_,rfl,⟨o,q,rfl,ah⟩,⟨_,_,rfl,⟨p,s,rfl,ai⟩,⟨y,z,rfl,al⟩⟩⟩:=hx_a
 refine enter 65 [.agg (E5 g r_ k b d i l),.agg (Hs o a q p s y z)] Try.func63 rfl rfl rfl rfl fun t hk=>?_
 have hm:=Ah.begin h w hh
 unfold EV at H
 refine XT (Aa (wl fun K hK=>?_))
 refine wb (.agg (E5 g r_ k b d i l)) hk hm fun e d2 d7 (cw:Kn 65 [(e,0)] [tP 2 0 0,tA 0 (E5 g r_ k b d i l),tA 1 (Hs o a q p s y z)] d2) (df:Ah ⟨w,h,Aj⟩ h [(e,0)] [⟨E5 g r_ k b d i l,some 43⟩] [] d7)=>hK _ _ ?_
 refine wl fun K hK=>?_
 refine wb (.agg (Hs o a q p s y z)) cw df fun f d3 d8 (cx:Kn 65 [(e,0),(f,0)] [tP 3 1 0,tP 2 0 0,tA 0 (E5 g r_ k b d i l),tA 1 (Hs o a q p s y z)] d3) (a0:Ah ⟨w,h,Aj⟩ h [(e,0),(f,0)] [⟨E5 g r_ k b d i l,some 43⟩,⟨Hs o a q p s y z,some 34⟩] [] d8)=>hK _ _ ?_
 refine Rk 2 1 G6 cx a0 fun er cy=>?_
 refine wf (XT (XT (Aa (Rk 0 1 ((tA 8 (E5 g r_ k b d i l))::G6) cy a0 fun es cz=>?_))))
 obtain⟨x9,ex9,H⟩:=Aq H
 refine wl fun K hK=>?_
 refine wc [.agg (E5 g r_ k b d i l)] cz a0 (Ea n a0.has r_ ((Ab (Ad ae) (Ab (Ab Ac Ac) (Ab (Ad ac) (Ab (Ad af) (Ab Ac (Ab Ac (Ab Ac Ac))))))):rep h r_ _) ex9) fun e5 b5 e8 b4 ap ab=>?_
 replace ae:=ae.mono ap
 replace ac:=ac.mono ap
 replace af:=af.mono ap
 replace ah:=ah.mono ap
 replace ai:=ai.mono ap
 replace al:=al.mono ap
 obtain rfl:=b4
 refine⟨.one (.c (.int .i64 x9)),rfl,fun d4 (c0:Kn 65 [(e,0),(f,0)] ((tI 9 x9)::(tA 8 (E5 g r_ k b d i l))::G6) d4)=>hK _ _ ?_⟩
 refine Rk 2 1 ((tI 5 x9)::G6) c0 ab fun et c1=>?_
 refine wf (XT (Aa (Rk 0 2 ((tB 11 (x9 != 0))::(tI 5 x9)::G6) c1 ab fun eu bb=>?_)))
 refine wf (wC ((x9 != 0)) bb (fun a7=>?_) (fun a7=>?_))
 ·
  rw [a7,XW] at H
  refine XT (Aa (Rk 0 2 [tI 4 x9] bb ab fun ev c2=>?_))
  refine wf (wp_ret ?_)
  obtain rfl:=XZ H
  exact rt (.one (.c (.int .i64 x9))) c2 ab rfl
 ·
  rw [a7,XV] at H
  refine wp_skip (XT (XT ?_))
  obtain⟨bu,am,H⟩:=Aq H
  refine Av (fun a' w'=>∃ (bh:Array Value)(au:Ae),a' = ⟨bh,[]⟩∧Kn 65 [(e,0),(f,0)] [tP 3 1 0,tP 2 0 0,tB 37 bu] bh∧Ah ⟨w,h,Aj⟩ au [(e,0),(f,0)] [⟨E5 g r_ k b d i l,some 43⟩,⟨Hs o a q p s y z,some 34⟩] [] w'∧Ae.le b5 au) ?_ ?_
  ·
   refine Aa (Rk 0 8 ((tB 20 (((a.holds.length:Nat):Int) != ((r_.buses.length:Nat):Int)))::G6) bb ab fun bz bp=>?_)
   rcases Bool.eq_false_or_eq_true ((((a.holds.length:Nat):Int) != ((r_.buses.length:Nat):Int))) with aw | aw
   ·
    rw [aw,XW] at am
    have c3:Kn 65 [(e,0),(f,0)] ((tB 20 true)::G6) bz:=(bp.setB 20 true (by rfl) aw).kp
    refine Rk 8 17 ((tB 37 true)::G6) c3 ab fun ew c4=>?_
    refine wf ?_
    obtain rfl:=XZ am
    exact XY _ ⟨_,rfl,c4.kp,ab,Ae.le_refl _⟩
   ·
    rw [aw,XV] at am
    have c5:Kn 65 [(e,0),(f,0)] ((tB 20 false)::G6) bz:=(bp.setB 20 false (by rfl) aw).kp
    refine Rk 8 9 ((tB 29 (((a.turns.length:Nat):Int) != ((r_.buses.length:Nat):Int)))::G6) c5 ab fun b0 bq=>?_
    rcases Bool.eq_false_or_eq_true ((((a.turns.length:Nat):Int) != ((r_.buses.length:Nat):Int))) with ax | ax
    ·
     rw [ax,XW] at am
     have c6:Kn 65 [(e,0),(f,0)] ((tB 29 true)::G6) b0:=(bq.setB 29 true (by rfl) ax).kp
     refine Rk 17 8 ((tB 37 true)::G6) c6 ab fun ex c7=>?_
     refine wf ?_
     obtain rfl:=XZ am
     exact XY _ ⟨_,rfl,c7.kp,ab,Ae.le_refl _⟩
    ·
     rw [ax,XV] at am
     have c8:Kn 65 [(e,0),(f,0)] ((tB 29 false)::G6) b0:=(bq.setB 29 false (by rfl) ax).kp
     refine Rk 17 8 ((tB 37 (((a.spares.length:Nat):Int) != ((r_.spares.length:Nat):Int)))::G6) c8 ab fun ey c9=>?_
     refine wf ?_
     obtain rfl:=XZ am
     exact XY _ ⟨_,rfl,c9.kp,ab,Ae.le_refl _⟩
  ·
   rintro _ e9 ⟨bh,au,rfl,bc,a1,aq⟩
   replace ae:=ae.mono aq
   replace ac:=ac.mono aq
   replace af:=af.mono aq
   replace ah:=ah.mono aq
   replace ai:=ai.mono aq
   replace al:=al.mono aq
   refine wC (bu) bc (fun a8=>?_) (fun a8=>?_)
   ·
    rw [a8,XW] at H
    refine XT (Aa (Rk 0 1 [tI 4 2] bc a1 fun ez da=>?_))
    refine wf (wp_ret ?_)
    obtain rfl:=XZ H
    exact rt (.one (.c (.int .i64 2))) da a1 rfl
   ·
    rw [a8,XV] at H
    refine wp_skip (XT (XT (Aa (Rk 0 4 ((tI 41 0)::(tI 40 ((r_.buses.length:Nat):Int))::(tS 39 b r_.buses.length d)::G6) bc a1 fun e0 db=>?_))))
    refine wf ?_
    obtain⟨bv,bk,H⟩:=Aq H
    refine Av (fun a' w'=>∃ (bw:Unit)(bi:Array Value)(a5:Ae),a' = ⟨bi,[]⟩∧Kn 65 [(e,0),(f,0)] [] bi∧Ah ⟨w,h,Aj⟩ a5 [(e,0),(f,0)] [⟨E5 g r_ k b d i l,some 43⟩,⟨Hs o a q p s y z,some 34⟩] [] w'∧Ae.le au a5∧bv=.go bw) ?_ ?_
    ·
     refine wp_block ?_
     refine Ar (fun du a' w'=>∃ (x_v10:Int)(bj:Array Value)(an:Ae),a' = ⟨bj,[]⟩∧Kn 65 [(e,0),(f,0)] (EO x_v10 r_ b d) bj∧Ah ⟨w,h,Aj⟩ an [(e,0),(f,0)] [⟨E5 g r_ k b d i l,some 43⟩,⟨Hs o a q p s y z,some 34⟩] [] w'∧Ae.le au an∧Cm du r_ a x_v10=some bv) n ?_ ?_
     ·
      exact XY 0 ⟨_,_,rfl,db.kp,a1,Ae.le_refl _,bk⟩
     ·
      rintro az _ d9 ⟨x_v10,bj,an,rfl,dc,a2,aj,m⟩
      clear bk
      obtain _ | az:=az
      ·
       rw [Cm] at m; cases m
      rw [Cm] at m
      replace ae:=ae.mono aj
      replace ac:=ac.mono aj
      replace af:=af.mono aj
      replace ah:=ah.mono aj
      replace ai:=ai.mono aj
      replace al:=al.mono aj
      refine XT (Aa (Rk 0 1 ((tB 42 (decide (x_v10<((r_.buses.length:Nat):Int))))::(EO x_v10 r_ b d)) dc a2 fun e1 bd=>?_))
      refine wf (XT (wC (decide (x_v10<((r_.buses.length:Nat):Int))) bd (fun a9=>?_) (fun a9=>?_)))
      ·
       rw [a9,XW] at m
       refine wp_skip (XT (wp_block (XT (Aa (Rk 0 1 ((tI 43 x_v10)::(EO x_v10 r_ b d)) bd a2 fun e2 dd=>?_)))))
       obtain⟨x44,ex44,m⟩:=Aq m
       obtain⟨dg,dj,dr⟩:=Ai ex44
       obtain⟨u,x,ec,b8,dm,b9⟩:=ac.get (by decide) dr
       obtain⟨_,_,rfl,rfl,⟨_,_,rfl,rfl,rfl⟩⟩:=dm
       have br:Ah ⟨w,h,Aj⟩ an [(e,0),(f,0),(u,x+(x_v10:Int).toNat*3)] [⟨E5 g r_ k b d i l,some 43⟩,⟨Hs o a q p s y z,some 34⟩,⟨EN x44,none⟩] [] d9:=a2.addPlc (cs:=(EN x44)) (fun j c hj=>b9 j _ (Al hj)) rfl (by kernel_rfl) (by kernel_rfl)
       refine Bc 1 (x_v10) rfl rfl (rfl) rfl (by decide) dd (by rfl) (by rfl) (by rfl) b8 (by rfl) dg dj (by kernel_rfl) fun dv (cc:Kn 65 [(e,0),(f,0),(u,x+(x_v10:Int).toNat*3)] ((tP 44 2 0)::(tI 43 x_v10)::(EO x_v10 r_ b d)) dv)=>?_
       refine Rk 2 1 ((tA 45 (EN x44))::(tI 43 x_v10)::(EO x_v10 r_ b d)) cc br fun ef cd=>?_
       refine wl fun K hK=>?_
       refine wa [.int .i64 0,.int .i64 0,.int .i64 0] cd br fun aa dw d5 (ce:Kn 65 [(e,0),(f,0),(u,x+(x_v10:Int).toNat*3),(aa,0)] ((tP 7 3 0)::(tA 45 (EN x44))::(tI 43 x_v10)::(EO x_v10 r_ b d)) dw) (bs:Ah ⟨w,h,Aj⟩ an [(e,0),(f,0),(u,x+(x_v10:Int).toNat*3),(aa,0)] [⟨E5 g r_ k b d i l,some 43⟩,⟨Hs o a q p s y z,some 34⟩,⟨EN x44,none⟩,⟨[.int .i64 0,.int .i64 0,.int .i64 0],some 96⟩] [] d5)=>hK _ _ ?_
       refine Rk 4 1 ((tI 6 x_v10)::(tP 7 3 0)::(tA 45 (EN x44))::(EO x_v10 r_ b d)) ce bs fun dx cf=>?_
       refine wl fun K hK=>?_
       refine G2 3 0 (.agg (EN x44)) (EN x44) cf bs fun b1 cg (ay:Ah ⟨w,h,Aj⟩ an [(e,0),(f,0),(u,x+(x_v10:Int).toNat*3),(aa,0)] [⟨E5 g r_ k b d i l,some 43⟩,⟨Hs o a q p s y z,some 34⟩,⟨EN x44,none⟩,⟨EN x44,some 96⟩] [] b1)=>hK _ _ ?_
       have ch:Kn 65 [(e,0),(f,0),(u,x+(x_v10:Int).toNat*3),(aa,0)] ((tI 6 x_v10)::(tP 7 3 0)::(EO x_v10 r_ b d)) dx:=cg.kp
       refine wf (XT (An (by kernel_rfl) ?_))
       replace ay:=ay.drew
       refine Ao [] [(e,0),(f,0),(u,x+(x_v10:Int).toNat*3),(aa,0)] [⟨E5 g r_ k b d i l,some 43⟩,⟨Hs o a q p s y z,some 34⟩,⟨EN x44,none⟩,⟨EN x44,some 96⟩] ?_
       refine Dr [0,1,2] [2,1,0] ((tI 48 x_v10)::(tS 47 o a.holds.length q)::(tI 6 x_v10)::(tP 7 3 0)::(EO x_v10 r_ b d)) ch ay fun eg ci=>?_
       obtain⟨x49,ex49,m⟩:=Aq m
       obtain⟨dh,dk,ds⟩:=Ai ex49
       obtain⟨ad,ag,ea,b6,dp,ca⟩:=ah.get (by decide) ds
       obtain rfl:=dp
       have be:Ah ⟨w,h,Aj⟩ an (Rr e f u x x_v10 aa ad ag) [⟨E5 g r_ k b d i l,some 43⟩,⟨Hs o a q p s y z,some 34⟩,⟨EN x44,none⟩,⟨EN x44,some 96⟩,⟨[.int .i64 x49],none⟩] [] (World.drew b1):=ay.addPlc (cs:=[.int .i64 x49]) (fun j c hj=>ca j _ (Al hj)) rfl (by kernel_rfl) (by kernel_rfl)
       refine Ax 3 (x_v10) [.int .i64 x49] (fun _ _ _ _ _ h=>h) rfl rfl (rfl) rfl (by decide) (by kernel_rfl) (by kernel_rfl) ci ay.plOk (by rfl) (by rfl) (by rfl) b6 (by rfl) dh dk (by kernel_rfl) fun dy (cj:Kn 65 (Rr e f u x x_v10 aa ad ag) ((tP 49 4 0)::(tI 48 x_v10)::(tS 47 o a.holds.length q)::(tI 6 x_v10)::(tP 7 3 0)::(EO x_v10 r_ b d)) dy)=>?_
       refine Dr [4] (dn 4) ((tI 50 x49)::(tI 6 x_v10)::(tP 7 3 0)::(EO x_v10 r_ b d)) cj be fun eh ck=>?_
       obtain⟨x51,ex51,m⟩:=Aq m
       refine Dl 5 fun K hK=>?_
       refine wc [.c (.int .i64 x49),.c (.int .i64 0),.c (.int .i64 2)] ck be (C6 az be.has x49 0 2 ex51) fun e3 a4 d6 b2 ao ak=>?_
       replace ae:=ae.mono ao
       replace ac:=ac.mono ao
       replace af:=af.mono ao
       replace ah:=ah.mono ao
       replace ai:=ai.mono ao
       replace al:=al.mono ao
       obtain rfl:=b2
       refine⟨.one (.c (.bool x51)),rfl,fun dz (cl:Kn 65 (Rr e f u x x_v10 aa ad ag) ((tB 51 x51)::(tI 50 x49)::(tI 6 x_v10)::(tP 7 3 0)::(EO x_v10 r_ b d)) dz)=>hK _ _ ak.plOk ?_⟩
       refine Dr [6,7] (dn 7) ((tB 53 (!x51))::(tI 6 x_v10)::(tP 7 3 0)::(EO x_v10 r_ b d)) cl ak fun bx bl=>?_
       rcases Bool.eq_false_or_eq_true ((!x51)) with av | av
       ·
        rw [av,XW] at m
        have cm:Kn 65 (Rr e f u x x_v10 aa ad ag) ((tB 53 true)::(tI 6 x_v10)::(tP 7 3 0)::(EO x_v10 r_ b d)) bx:=(bl.setB 53 true (by rfl) av).kp
        refine Dr [8,9,10,11,12,13,14,15,16,17] (dn 17) ((tB 63 true)::(EO x_v10 r_ b d)) cm ak fun ei bm=>?_
        refine Ay (by kernel_rfl) (wC true bm (fun hb=>?_) (fun hb=>?_))
        rotate_left
        ·
         cases hb
        refine XT (Aa (Rk 0 1 [tI 4 2] bm ak fun ej cn=>?_))
        refine wf (wp_ret ?_)
        obtain rfl:=XZ m
        obtain rfl:=XZ H
        exact rt (.one (.c (.int .i64 2))) cn ak rfl
       ·
        rw [av,XV] at m
        have co:Kn 65 (Rr e f u x x_v10 aa ad ag) ((tB 53 false)::(tI 6 x_v10)::(tP 7 3 0)::(EO x_v10 r_ b d)) bx:=(bl.setB 53 false (by rfl) av).kp
        refine Dr [8,9,10,11,12] (dn 12) ((tI 58 x_v10)::(tS 57 p a.turns.length s)::(tA 55 (EN x44))::(tA 54 (E5 g r_ k b d i l))::(tB 53 false)::(EO x_v10 r_ b d)) co ak fun ek bn=>?_
        obtain⟨x59,ex59,m⟩:=Aq m
        obtain⟨di,dl,dt⟩:=Ai ex59
        obtain⟨a3,bg,eb,b7,dq,cb⟩:=ai.get (by decide) dt
        obtain rfl:=dq
        have bf:Ah ⟨w,h,Aj⟩ a4 [(e,0),(f,0),(u,x+(x_v10:Int).toNat*3),(aa,0),(ad,ag+(x_v10:Int).toNat*1),(a3,bg+(x_v10:Int).toNat*1)] [⟨E5 g r_ k b d i l,some 43⟩,⟨Hs o a q p s y z,some 34⟩,⟨EN x44,none⟩,⟨EN x44,some 96⟩,⟨[.int .i64 x49],none⟩,⟨[.int .i64 x59],none⟩] [] d6:=ak.addPlc (cs:=[.int .i64 x59]) (fun j c hj=>cb j _ (Al hj)) rfl (by kernel_rfl) (by kernel_rfl)
        refine Ax 13 (x_v10) [.int .i64 x59] (fun _ _ _ _ _ h=>h) rfl rfl (Ak bn (by kernel_rfl)) rfl (by decide) (by kernel_rfl) (by kernel_rfl) bn ak.plOk (by rfl) (by rfl) (by rfl) b7 (by rfl) di dl (by kernel_rfl) fun d0 (cp:Kn 65 [(e,0),(f,0),(u,x+(x_v10:Int).toNat*3),(aa,0),(ad,ag+(x_v10:Int).toNat*1),(a3,bg+(x_v10:Int).toNat*1)] ((tP 59 5 0)::(tI 58 x_v10)::(tS 57 p a.turns.length s)::(tA 55 (EN x44))::(tA 54 (E5 g r_ k b d i l))::(tB 53 false)::(EO x_v10 r_ b d)) d0)=>?_
        refine Dr [14] (dn 14) ((tI 60 x59)::(tA 55 (EN x44))::(tA 54 (E5 g r_ k b d i l))::(tB 53 false)::(EO x_v10 r_ b d)) cp bf fun el bo=>?_
        obtain⟨x61,ex61,m⟩:=Aq m
        refine F0 15 rfl (by kernel_rfl) (by decide) (Ak bo (by kernel_rfl)) fun K hK=>?_
        refine wc [.agg (E5 g r_ k b d i l),.agg (EN x44),.c (.int .i64 x59)] bo bf (FA az bf.has r_ ((Ab (Ad ae) (Ab (Ab Ac Ac) (Ab (Ad ac) (Ab (Ad af) (Ab Ac (Ab Ac (Ab Ac Ac))))))):rep a4 r_ _) x44 ((Ab Ac (Ab Ac Ac)):rep a4 x44 _) x59 ex61) fun e4 ed e6 b3 de ar=>?_
        obtain rfl:=b3
        refine⟨.one (.c (.bool x61)),rfl,fun d1 (cq:Kn 65 [(e,0),(f,0),(u,x+(x_v10:Int).toNat*3),(aa,0),(ad,ag+(x_v10:Int).toNat*1),(a3,bg+(x_v10:Int).toNat*1)] ((tB 61 x61)::(tI 60 x59)::(tA 55 (EN x44))::(tA 54 (E5 g r_ k b d i l))::(tB 53 false)::(EO x_v10 r_ b d)) d1)=>hK _ _ ar.plOk ?_⟩
        refine Dr [16,17] (dn 17) ((tB 63 (!x61))::(EO x_v10 r_ b d)) cq ar fun em ba=>?_
        refine Ay (by kernel_rfl) (wC ((!x61)) ba (fun a6=>?_) (fun a6=>?_))
        ·
         rw [a6,XW] at m
         refine XT (Aa (Rk 0 1 [tI 4 2] ba ar fun en cr=>?_))
         refine wf (wp_ret ?_)
         obtain rfl:=XZ m
         obtain rfl:=XZ H
         exact rt (.one (.c (.int .i64 2))) cr ar rfl
        ·
         rw [a6,XV] at m
         refine wp_skip (Aa (Rk 0 2 ((tI 41 (IntKind.i64.wrap (x_v10+1)))::(tI 40 ((r_.buses.length:Nat):Int))::(tS 39 b r_.buses.length d)::G6) ba ar fun eo ct=>?_))
         refine wf ?_
         exact XY az ⟨Nat.lt_succ_self _,XY (IntKind.i64.wrap (x_v10+1)) ⟨_,_,rfl,(ct.keep [41,40,39,3,2] (by rfl)).cut 2 (by kernel_rfl),ar.cutPl 2 (by kernel_rfl),XU aj (XU ao de),m⟩⟩
      ·
       rw [a9,XV] at m
       refine wp_exit ?_
       obtain rfl:=XZ m
       exact XY () ⟨_,_,rfl,bd.kp,a2,aj,rfl⟩
    ·
     rintro _ e7 ⟨bw,bi,a5,rfl,cu,bt,ee,rfl⟩
     rw [Ex.bind_go] at H
     refine XT (Aa (Rk 0 1 [tI 4 0] cu bt fun ep cv=>?_))
     refine wf (wp_ret ?_)
     obtain rfl:=XZ H
     exact rt (.one (.c (.int .i64 0))) cv bt rfl
end Go.Proofs.Ytokchpjijlebiaa
