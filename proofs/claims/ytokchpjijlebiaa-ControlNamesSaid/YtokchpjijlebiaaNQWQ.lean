/- Each call computes its plain function. -/
import Derived.Test.YtokchpjijlebiaaProg
import Derived.Test.YtokchpjijlebiaaNQP0
import Derived.Test.YtokchpjijlebiaaNQWP
set_option linter.all false
namespace Go.Proofs.Ytokchpjijlebiaa
open Go Go.RowKit
open Rep (rep)
open KRep (kv)
open VRep (rv)
abbrev NQ (a:Option Addr) (q0:Ag) (g:Nat) (d:Option Addr) (i:Nat) (f:Option Addr) (k:Nat):List SC:=[.slice a q0.legs.length g,.int .i64 q0.turn.lo,.int .i64 q0.turn.hi,.slice d q0.buses.length i,.slice f q0.spares.length k,.int .i64 q0.unit,.int .i64 q0.gap,.int .i64 q0.fr,.int .i64 q0.to_]
set_option maxRecDepth 100000 in
set_option maxHeartbeats 4000000 in
theorem FP (n:Nat) {h:Ad} {w:World} (hh:Dv h w) (b:Ct) {cs_b:List Value} (hx_b:rep h b cs_b) (q0:Ag) {b_q0:Nat} (hb_q0:Cv h b_q0 q0) {r:Bool} (H:BR n b q0=some r) :
  Calls Try.prog 75 #[.agg cs_b.toArray,.pointer (some ⟨b_q0,0,none⟩)] w (D6 (fun h v=>v=.bool r) h w):=by
 obtain⟨_,_,rfl,rfl,⟨_,_,rfl,rfl,rfl⟩⟩:=hx_b
 obtain⟨_,hx_q0,hc_q0⟩:=id hb_q0
 obtain⟨_,_,rfl,⟨a,g,rfl,u⟩,⟨_,_,rfl,⟨_,_,rfl,rfl,rfl⟩,⟨_,_,rfl,⟨d,i,rfl,x⟩,⟨_,_,rfl,⟨f,k,rfl,y⟩,⟨_,_,rfl,rfl,⟨_,_,rfl,rfl,⟨_,_,rfl,rfl,rfl⟩⟩⟩⟩⟩⟩⟩:=hx_q0
 refine FN (e:=[(b_q0,0)]) 13 [.agg [.int .i64 b.stop,.int .i64 b.tm.lo,.int .i64 b.tm.hi],.c (.ptr 0 0)] Try.func75 rfl rfl rfl rfl fun t hk=>?_
 have hm:=Ah.begin h w hh
 replace hm:=hm.addPlc (o:=0) (cs:=[.slice a q0.legs.length g,.int .i64 q0.turn.lo,.int .i64 q0.turn.hi,.slice d q0.buses.length i,.slice f q0.spares.length k,.int .i64 q0.unit,.int .i64 q0.gap,.int .i64 q0.fr,.int .i64 q0.to_]) (fun j c hj=>by rw [Nat.zero_add]; exact hc_q0 j _ (Al hj)) rfl (by kernel_rfl) (by kernel_rfl)
 replace hm:Ah ⟨w,h,Az⟩ h [(b_q0,0)] [⟨NQ a q0 g d i f k,none⟩] [] w:=hm
 unfold BR at H
 refine QT (Ab (wl fun K hK=>?_))
 refine wb (.agg [.int .i64 b.stop,.int .i64 b.tm.lo,.int .i64 b.tm.hi]) hk hm fun m ap a3 (ag:Kn 13 [(b_q0,0),(m,0)] [tP 2 1 0,tA 0 [.int .i64 b.stop,.int .i64 b.tm.lo,.int .i64 b.tm.hi],tP 1 0 0] ap) s=>hK _ _ ?_
 refine Rk 1 1 [tP 2 1 0,tP 1 0 0] ag s fun aw ah=>?_
 refine wf (QT (Ab (Rk 0 3 [tI 6 b.stop,tA 4 (NQ a q0 g d i f k),tP 2 1 0] ah s fun ax ai=>?_)))
 obtain⟨x7,ex7,H⟩:=A3 H
 refine wl fun K hK=>?_
 refine wc [.agg (NQ a q0 g d i f k),.c (.int .i64 b.stop)] ai s (C9 n s.has q0 ((Aa (Ae u) (Aa (Aa Ac Ac) (Aa (Ae x) (Aa (Ae y) (Aa Ac (Aa Ac (Aa Ac Ac))))))):rep h q0 _) b.stop ex7) fun a1 af a4 ad q l=>?_
 replace u:=u.mono q
 replace x:=x.mono q
 replace y:=y.mono q
 replace hb_q0:=hb_q0.mono q
 obtain rfl:=ad
 refine⟨.one (.c (.bool x7)),rfl,fun aq (aj:Kn 13 [(b_q0,0),(m,0)] [tB 7 x7,tI 6 b.stop,tA 4 (NQ a q0 g d i f k),tP 2 1 0] aq)=>hK _ _ ?_⟩
 refine Rk 4 1 [tB 8 x7,tP 2 1 0] aj l fun ac z=>?_
 rcases Bool.eq_false_or_eq_true (x7) with p | p
 ·
  rw [p,QW] at H
  have ak:Kn 13 [(b_q0,0),(m,0)] [tB 8 true,tP 2 1 0] ac:=(z.setB 8 true (by rfl) p).kp
  refine Rk 5 2 [tA 10 [.int .i64 b.tm.lo,.int .i64 b.tm.hi],tB 8 true] ak l fun ay aa=>?_
  obtain⟨x11,ex11,H⟩:=A3 H
  refine Aq _ rfl (Ai aa (by kernel_rfl)) fun K hK=>?_
  refine wc [.agg [.int .i64 b.tm.lo,.int .i64 b.tm.hi],.c (.int .i64 2000)] aa l (EE n l.has b.tm ((Aa Ac Ac):rep af b.tm _) 2000 ex11) fun a2 au a5 ae av ab=>?_
  obtain rfl:=ae
  refine⟨.one (.c (.bool x11)),rfl,fun ar (al:Kn 13 [(b_q0,0),(m,0)] [tB 11 x11,tA 10 [.int .i64 b.tm.lo,.int .i64 b.tm.hi],tB 8 true] ar)=>hK _ _ ?_⟩
  refine Rk 8 2 [tB 3 x11] al ab fun az am=>?_
  refine wf (wp_ret ?_)
  obtain rfl:=QZ H
  exact rt (.one (.c (.bool x11))) am ab rfl
 ·
  rw [p,QV] at H
  have an:Kn 13 [(b_q0,0),(m,0)] [tB 8 false,tP 2 1 0] ac:=(z.setB 8 false (by rfl) p).kp
  refine Rk 5 5 [tB 3 false] an l fun a0 ao=>?_
  refine wf (wp_ret ?_)
  obtain rfl:=QZ H
  exact rt (.one (.c (.bool false))) ao l rfl
abbrev NR (a:Option Addr) (q0:Ag) (f:Nat) (b:Option Addr) (g:Nat) (d:Option Addr) (i:Nat):List SC:=[.slice a q0.legs.length f,.int .i64 q0.turn.lo,.int .i64 q0.turn.hi,.slice b q0.buses.length g,.slice d q0.spares.length i,.int .i64 q0.unit,.int .i64 q0.gap,.int .i64 q0.fr,.int .i64 q0.to_]
set_option maxRecDepth 100000 in
set_option maxHeartbeats 4000000 in
theorem FQ (n:Nat) {h:Ad} {w:World} (hh:Dv h w) (s:AP) {cs_s:List Value} (hx_s:rep h s cs_s) (q0:Ag) {b_q0:Nat} (hb_q0:Cv h b_q0 q0) {r:Bool} (H:BS n s q0=some r) :
  Calls Try.prog 77 #[.agg cs_s.toArray,.pointer (some ⟨b_q0,0,none⟩)] w (D6 (fun h v=>v=.bool r) h w):=by
 obtain⟨_,_,rfl,rfl,rfl⟩:=hx_s
 obtain⟨_,hx_q0,hc_q0⟩:=id hb_q0
 obtain⟨_,_,rfl,⟨a,f,rfl,u⟩,⟨_,_,rfl,⟨_,_,rfl,rfl,rfl⟩,⟨_,_,rfl,⟨b,g,rfl,x⟩,⟨_,_,rfl,⟨d,i,rfl,y⟩,⟨_,_,rfl,rfl,⟨_,_,rfl,rfl,⟨_,_,rfl,rfl,rfl⟩⟩⟩⟩⟩⟩⟩:=hx_q0
 refine FN (e:=[(b_q0,0)]) 13 [.agg [.int .i64 s.stop,.int .i64 s.tm],.c (.ptr 0 0)] Try.func77 rfl rfl rfl rfl fun t hk=>?_
 have hm:=Ah.begin h w hh
 replace hm:=hm.addPlc (o:=0) (cs:=[.slice a q0.legs.length f,.int .i64 q0.turn.lo,.int .i64 q0.turn.hi,.slice b q0.buses.length g,.slice d q0.spares.length i,.int .i64 q0.unit,.int .i64 q0.gap,.int .i64 q0.fr,.int .i64 q0.to_]) (fun j c hj=>by rw [Nat.zero_add]; exact hc_q0 j _ (Al hj)) rfl (by kernel_rfl) (by kernel_rfl)
 replace hm:Ah ⟨w,h,Az⟩ h [(b_q0,0)] [⟨NR a q0 f b g d i,none⟩] [] w:=hm
 unfold BS at H
 refine QT (Ab (wl fun K hK=>?_))
 refine wb (.agg [.int .i64 s.stop,.int .i64 s.tm]) hk hm fun l ao a3 (af:Kn 13 [(b_q0,0),(l,0)] [tP 2 1 0,tA 0 [.int .i64 s.stop,.int .i64 s.tm],tP 1 0 0] ao) q=>hK _ _ ?_
 refine Rk 1 1 [tP 2 1 0,tP 1 0 0] af q fun aw ag=>?_
 refine wf (QT (Ab (Rk 0 3 [tI 6 s.stop,tA 4 (NR a q0 f b g d i),tP 2 1 0] ag q fun ax ah=>?_)))
 obtain⟨x7,ex7,H⟩:=A3 H
 refine wl fun K hK=>?_
 refine wc [.agg (NR a q0 f b g d i),.c (.int .i64 s.stop)] ah q (C9 n q.has q0 ((Aa (Ae u) (Aa (Aa Ac Ac) (Aa (Ae x) (Aa (Ae y) (Aa Ac (Aa Ac (Aa Ac Ac))))))):rep h q0 _) s.stop ex7) fun a1 ar a4 ad p k=>?_
 replace u:=u.mono p
 replace x:=x.mono p
 replace y:=y.mono p
 replace hb_q0:=hb_q0.mono p
 obtain rfl:=ad
 refine⟨.one (.c (.bool x7)),rfl,fun ap (ai:Kn 13 [(b_q0,0),(l,0)] [tB 7 x7,tI 6 s.stop,tA 4 (NR a q0 f b g d i),tP 2 1 0] ap)=>hK _ _ ?_⟩
 refine Rk 4 1 [tB 8 x7,tP 2 1 0] ai k fun ac z=>?_
 rcases Bool.eq_false_or_eq_true (x7) with m | m
 ·
  rw [m,QW] at H
  have aj:Kn 13 [(b_q0,0),(l,0)] [tB 8 true,tP 2 1 0] ac:=(z.setB 8 true (by rfl) m).kp
  refine Rk 5 2 [tI 10 s.tm,tB 8 true] aj k fun ay aa=>?_
  obtain⟨x11,ex11,H⟩:=A3 H
  refine Aq _ rfl (Ai aa (by kernel_rfl)) fun K hK=>?_
  refine wc [.c (.int .i64 s.tm)] aa k (D7 n k.has s.tm ex11) fun a2 au a5 ae av ab=>?_
  obtain rfl:=ae
  refine⟨.one (.c (.bool x11)),rfl,fun aq (ak:Kn 13 [(b_q0,0),(l,0)] [tB 11 x11,tI 10 s.tm,tB 8 true] aq)=>hK _ _ ?_⟩
  refine Rk 8 2 [tB 3 x11] ak ab fun az al=>?_
  refine wf (wp_ret ?_)
  obtain rfl:=QZ H
  exact rt (.one (.c (.bool x11))) al ab rfl
 ·
  rw [m,QV] at H
  have am:Kn 13 [(b_q0,0),(l,0)] [tB 8 false,tP 2 1 0] ac:=(z.setB 8 false (by rfl) m).kp
  refine Rk 5 5 [tB 3 false] am k fun a0 an=>?_
  refine wf (wp_ret ?_)
  obtain rfl:=QZ H
  exact rt (.one (.c (.bool false))) an k rfl
abbrev FR (s:List Rg) (a_s:Option Addr) (c_s:Nat) (fn_f:Fn) (fa_f fc_f:Array Value):TM:=[tI 7 ((s.length:Nat):Int),tS 0 a_s s.length c_s,(1,.one (.c (.func fn_f fa_f fc_f)))]
set_option maxRecDepth 100000 in
set_option maxHeartbeats 4000000 in
theorem CP (n:Nat) {h:Ad} {w:World} (hh:Dv h w) (s:List Rg) {a_s:Option Addr} {c_s:Nat} (hr_s:Ar h a_s c_s s) (f:Rg→Option Bool) {fn_f:Fn} {fa_f fc_f:Array Value} (hf_f:Pb h (.func fn_f fa_f fc_f) f) {r:Int} (H:AQ n s f=some r) :
  Calls Try.prog 110 #[.slice a_s s.length c_s,.func fn_f fa_f fc_f] w (D6 (fun h v=>v=.int .i64 r) h w):=by
 refine enter 19 [.c (.slice a_s s.length c_s),.c (.func fn_f fa_f fc_f)] Try.func110 rfl rfl rfl rfl fun t hk=>?_
 have hm:=Ah.begin h w hh
 unfold AQ at H
 refine QT (Ab (Rk 0 1 [tS 0 a_s s.length c_s,(1,.one (.c (.func fn_f fa_f fc_f)))] hk hm fun a8 al=>?_))
 refine wf (QT (QT (Ab (Rk 0 3 ((tI 8 0)::(FR s a_s c_s fn_f fa_f fc_f)) al hm fun bc ap=>?_))))
 refine wf ?_
 obtain⟨ae,ac,H⟩:=A3 H
 refine A7 (fun a' w'=>∃ (af:Unit)(ab:Array Value)(m:Ad),a' = ⟨ab,[]⟩∧Kn 19 [] [] ab∧Ah ⟨w,h,Az⟩ m [] [] [] w'∧Ad.le h m∧ae=.go af) ?_ ?_
 ·
  refine wp_block ?_
  refine A5 (fun a3 a' w'=>∃ (x_v10:Int)(aa:Array Value)(g:Ad),a' = ⟨aa,[]⟩∧Kn 19 [] ((tI 8 x_v10)::(FR s a_s c_s fn_f fa_f fc_f)) aa∧Ah ⟨w,h,Az⟩ g [] [] [] w'∧Ad.le h g∧Ax a3 s f x_v10=some ae) n ?_ ?_
  ·
   exact QY 0 ⟨_,_,rfl,ap.kp,hm,Ad.le_refl _,ac⟩
  ·
   rintro z _ bi ⟨x_v10,aa,g,rfl,ak,d,i,a⟩
   clear ac
   obtain _ | z:=z
   ·
    rw [Ax] at a; cases a
   rw [Ax] at a
   replace hr_s:=hr_s.mono i
   replace hf_f:=hf_f.mono i
   refine QT (Ab (Rk 0 1 ((tB 9 (decide (x_v10<((s.length:Nat):Int))))::(tI 8 x_v10)::(FR s a_s c_s fn_f fa_f fc_f)) ak d fun a9 u=>?_))
   refine wf (QT (wC (decide (x_v10<((s.length:Nat):Int))) u (fun p=>?_) (fun p=>?_)))
   ·
    rw [p,QW] at a
    refine wp_skip (QT (wp_block (QT (Ab (Rk 0 2 ((tI 5 x_v10)::(tI 8 x_v10)::(FR s a_s c_s fn_f fa_f fc_f)) u d fun ba am=>?_)))))
    refine wf (QT (Ab (Rk 0 3 ((tI 13 x_v10)::(tS 12 a_s s.length c_s)::(11,.one (.c (.func fn_f fa_f fc_f)))::(tI 5 x_v10)::(tI 8 x_v10)::(FR s a_s c_s fn_f fa_f fc_f)) am d fun bb an=>?_)))
    obtain⟨x14,ex14,a⟩:=A3 a
    obtain⟨az,a0,a2⟩:=Ak ex14
    obtain⟨e,l,a5,ai,a1,aj⟩:=hr_s.get (by decide) a2
    obtain⟨_,_,rfl,rfl,rfl⟩:=a1
    have y:=d.addPlc (b:=e) (o:=l+(x_v10:Int).toNat*2) (cs:=[.int .i64 x14.lo,.int .i64 x14.hi]) (fun j c hj=>aj j _ (Al hj)) rfl (by kernel_rfl) (by kernel_rfl)
    refine A6 3 (x_v10) rfl rfl (rfl) rfl (by decide) an (by rfl) (by rfl) (by rfl) ai (by rfl) az a0 (by kernel_rfl) fun a4 (ao:Kn 19 [(e,l+(x_v10:Int).toNat*2)] ((tP 14 0 0)::(tI 13 x_v10)::(tS 12 a_s s.length c_s)::(11,.one (.c (.func fn_f fa_f fc_f)))::(tI 5 x_v10)::(tI 8 x_v10)::(FR s a_s c_s fn_f fa_f fc_f)) a4)=>?_
    refine Rk 4 1 ((tA 15 [.int .i64 x14.lo,.int .i64 x14.hi])::(11,.one (.c (.func fn_f fa_f fc_f)))::(tI 5 x_v10)::(tI 8 x_v10)::(FR s a_s c_s fn_f fa_f fc_f)) ao y fun bd aq=>?_
    obtain⟨x16,ex16,a⟩:=A3 a
    refine wl fun K hK=>?_
    refine CN (.func fn_f fa_f fc_f) [.agg [.int .i64 x14.lo,.int .i64 x14.hi]] _ aq y rfl rfl (by decide) (by rfl) (by rfl) rfl (hf_f _ _ (Ad.le_refl _) y.has x14 _ ((Aa Ac Ac):rep g x14 _) _ ex16) fun bh a6 bj ah ay k=>?_
    obtain rfl:=ah
    refine⟨.one (.c (.bool x16)),rfl,fun ag (ar:Kn 19 [(e,l+(x_v10:Int).toNat*2)] ((tB 16 x16)::(tA 15 [.int .i64 x14.lo,.int .i64 x14.hi])::(11,.one (.c (.func fn_f fa_f fc_f)))::(tI 5 x_v10)::(tI 8 x_v10)::(FR s a_s c_s fn_f fa_f fc_f)) ag)=>hK _ _ ?_⟩
    have x:Kn 19 [(e,l+(x_v10:Int).toNat*2)] ((tB 16 x16)::(tI 5 x_v10)::(tI 8 x_v10)::(FR s a_s c_s fn_f fa_f fc_f)) ag:=ar.kp
    refine wf (wC (x16) x (fun q=>?_) (fun q=>?_))
    ·
     rw [q,QW] at a
     refine QT (Ab (Rk 0 2 [tI 4 x_v10] x k fun be au=>?_))
     refine wf (wp_ret ?_)
     obtain rfl:=QZ a
     obtain rfl:=QZ H
     exact rt (.one (.c (.int .i64 x_v10))) au k rfl
    ·
     rw [q,QV] at a
     refine wp_skip (Ab (Rk 0 2 ((tI 8 (IntKind.i64.wrap (x_v10+1)))::(FR s a_s c_s fn_f fa_f fc_f)) x k fun bf av=>?_))
     refine wf ?_
     exact QY z ⟨Nat.lt_succ_self _,QY (IntKind.i64.wrap (x_v10+1)) ⟨_,_,rfl,(av.keep [8,7,0,1] (by rfl)).cut 0 (by kernel_rfl),k.cutPl 0 (by kernel_rfl),QU i ay,a⟩⟩
   ·
    rw [p,QV] at a
    refine wp_exit ?_
    obtain rfl:=QZ a
    exact QY () ⟨_,_,rfl,u.kp,d,i,rfl⟩
 ·
  rintro _ bk ⟨af,ab,m,rfl,aw,ad,a7,rfl⟩
  rw [Ex.bind_go] at H
  refine QT (Ab (Rk 0 1 [tI 4 (-1)] aw ad fun bg ax=>?_))
  refine wf (wp_ret ?_)
  obtain rfl:=QZ H
  exact rt (.one (.c (.int .i64 (-1)))) ax ad rfl
abbrev Mo (x14:Ct):List SC:=[.int .i64 x14.stop,.int .i64 x14.tm.lo,.int .i64 x14.tm.hi]
abbrev FT (s:List Ct) (a_s:Option Addr) (c_s:Nat) (fn_f:Fn) (fa_f fc_f:Array Value):TM:=[tI 7 ((s.length:Nat):Int),tS 0 a_s s.length c_s,(1,.one (.c (.func fn_f fa_f fc_f)))]
set_option maxRecDepth 100000 in
set_option maxHeartbeats 4000000 in
theorem Di (n:Nat) {h:Ad} {w:World} (hh:Dv h w) (s:List Ct) {a_s:Option Addr} {c_s:Nat} (hr_s:Ar h a_s c_s s) (f:Ct→Option Bool) {fn_f:Fn} {fa_f fc_f:Array Value} (hf_f:Pc h (.func fn_f fa_f fc_f) f) {r:Int} (H:Bc n s f=some r) :
  Calls Try.prog 111 #[.slice a_s s.length c_s,.func fn_f fa_f fc_f] w (D6 (fun h v=>v=.int .i64 r) h w):=by
 refine enter 19 [.c (.slice a_s s.length c_s),.c (.func fn_f fa_f fc_f)] Try.func111 rfl rfl rfl rfl fun t hk=>?_
 have hm:=Ah.begin h w hh
 unfold Bc at H
 refine QT (Ab (Rk 0 1 [tS 0 a_s s.length c_s,(1,.one (.c (.func fn_f fa_f fc_f)))] hk hm fun a8 al=>?_))
 refine wf (QT (QT (Ab (Rk 0 3 ((tI 8 0)::(FT s a_s c_s fn_f fa_f fc_f)) al hm fun bc ap=>?_))))
 refine wf ?_
 obtain⟨ae,ac,H⟩:=A3 H
 refine A7 (fun a' w'=>∃ (af:Unit)(ab:Array Value)(m:Ad),a' = ⟨ab,[]⟩∧Kn 19 [] [] ab∧Ah ⟨w,h,Az⟩ m [] [] [] w'∧Ad.le h m∧ae=.go af) ?_ ?_
 ·
  refine wp_block ?_
  refine A5 (fun a3 a' w'=>∃ (x_v10:Int)(aa:Array Value)(g:Ad),a' = ⟨aa,[]⟩∧Kn 19 [] ((tI 8 x_v10)::(FT s a_s c_s fn_f fa_f fc_f)) aa∧Ah ⟨w,h,Az⟩ g [] [] [] w'∧Ad.le h g∧A4 a3 s f x_v10=some ae) n ?_ ?_
  ·
   exact QY 0 ⟨_,_,rfl,ap.kp,hm,Ad.le_refl _,ac⟩
  ·
   rintro z _ bi ⟨x_v10,aa,g,rfl,ak,d,i,a⟩
   clear ac
   obtain _ | z:=z
   ·
    rw [A4] at a; cases a
   rw [A4] at a
   replace hr_s:=hr_s.mono i
   replace hf_f:=hf_f.mono i
   refine QT (Ab (Rk 0 1 ((tB 9 (decide (x_v10<((s.length:Nat):Int))))::(tI 8 x_v10)::(FT s a_s c_s fn_f fa_f fc_f)) ak d fun a9 u=>?_))
   refine wf (QT (wC (decide (x_v10<((s.length:Nat):Int))) u (fun p=>?_) (fun p=>?_)))
   ·
    rw [p,QW] at a
    refine wp_skip (QT (wp_block (QT (Ab (Rk 0 2 ((tI 5 x_v10)::(tI 8 x_v10)::(FT s a_s c_s fn_f fa_f fc_f)) u d fun ba am=>?_)))))
    refine wf (QT (Ab (Rk 0 3 ((tI 13 x_v10)::(tS 12 a_s s.length c_s)::(11,.one (.c (.func fn_f fa_f fc_f)))::(tI 5 x_v10)::(tI 8 x_v10)::(FT s a_s c_s fn_f fa_f fc_f)) am d fun bb an=>?_)))
    obtain⟨x14,ex14,a⟩:=A3 a
    obtain⟨az,a0,a2⟩:=Ak ex14
    obtain⟨e,l,a5,ai,a1,aj⟩:=hr_s.get (by decide) a2
    obtain⟨_,_,rfl,rfl,⟨_,_,rfl,rfl,rfl⟩⟩:=a1
    have y:=d.addPlc (b:=e) (o:=l+(x_v10:Int).toNat*3) (cs:=(Mo x14)) (fun j c hj=>aj j _ (Al hj)) rfl (by kernel_rfl) (by kernel_rfl)
    refine A6 3 (x_v10) rfl rfl (rfl) rfl (by decide) an (by rfl) (by rfl) (by rfl) ai (by rfl) az a0 (by kernel_rfl) fun a4 (ao:Kn 19 [(e,l+(x_v10:Int).toNat*3)] ((tP 14 0 0)::(tI 13 x_v10)::(tS 12 a_s s.length c_s)::(11,.one (.c (.func fn_f fa_f fc_f)))::(tI 5 x_v10)::(tI 8 x_v10)::(FT s a_s c_s fn_f fa_f fc_f)) a4)=>?_
    refine Rk 4 1 ((tA 15 (Mo x14))::(11,.one (.c (.func fn_f fa_f fc_f)))::(tI 5 x_v10)::(tI 8 x_v10)::(FT s a_s c_s fn_f fa_f fc_f)) ao y fun bd aq=>?_
    obtain⟨x16,ex16,a⟩:=A3 a
    refine wl fun K hK=>?_
    refine CN (.func fn_f fa_f fc_f) [.agg (Mo x14)] _ aq y rfl rfl (by decide) (by rfl) (by rfl) rfl (hf_f _ _ (Ad.le_refl _) y.has x14 _ ((Aa Ac (Aa Ac Ac)):rep g x14 _) _ ex16) fun bh a6 bj ah ay k=>?_
    obtain rfl:=ah
    refine⟨.one (.c (.bool x16)),rfl,fun ag (ar:Kn 19 [(e,l+(x_v10:Int).toNat*3)] ((tB 16 x16)::(tA 15 (Mo x14))::(11,.one (.c (.func fn_f fa_f fc_f)))::(tI 5 x_v10)::(tI 8 x_v10)::(FT s a_s c_s fn_f fa_f fc_f)) ag)=>hK _ _ ?_⟩
    have x:Kn 19 [(e,l+(x_v10:Int).toNat*3)] ((tB 16 x16)::(tI 5 x_v10)::(tI 8 x_v10)::(FT s a_s c_s fn_f fa_f fc_f)) ag:=ar.kp
    refine wf (wC (x16) x (fun q=>?_) (fun q=>?_))
    ·
     rw [q,QW] at a
     refine QT (Ab (Rk 0 2 [tI 4 x_v10] x k fun be au=>?_))
     refine wf (wp_ret ?_)
     obtain rfl:=QZ a
     obtain rfl:=QZ H
     exact rt (.one (.c (.int .i64 x_v10))) au k rfl
    ·
     rw [q,QV] at a
     refine wp_skip (Ab (Rk 0 2 ((tI 8 (IntKind.i64.wrap (x_v10+1)))::(FT s a_s c_s fn_f fa_f fc_f)) x k fun bf av=>?_))
     refine wf ?_
     exact QY z ⟨Nat.lt_succ_self _,QY (IntKind.i64.wrap (x_v10+1)) ⟨_,_,rfl,(av.keep [8,7,0,1] (by rfl)).cut 0 (by kernel_rfl),k.cutPl 0 (by kernel_rfl),QU i ay,a⟩⟩
   ·
    rw [p,QV] at a
    refine wp_exit ?_
    obtain rfl:=QZ a
    exact QY () ⟨_,_,rfl,u.kp,d,i,rfl⟩
 ·
  rintro _ bk ⟨af,ab,m,rfl,aw,ad,a7,rfl⟩
  rw [Ex.bind_go] at H
  refine QT (Ab (Rk 0 1 [tI 4 (-1)] aw ad fun bg ax=>?_))
  refine wf (wp_ret ?_)
  obtain rfl:=QZ H
  exact rt (.one (.c (.int .i64 (-1)))) ax ad rfl
abbrev FU (s:List AP) (a_s:Option Addr) (c_s:Nat) (fn_f:Fn) (fa_f fc_f:Array Value):TM:=[tI 7 ((s.length:Nat):Int),tS 0 a_s s.length c_s,(1,.one (.c (.func fn_f fa_f fc_f)))]
set_option maxRecDepth 100000 in
set_option maxHeartbeats 4000000 in
theorem CQ (n:Nat) {h:Ad} {w:World} (hh:Dv h w) (s:List AP) {a_s:Option Addr} {c_s:Nat} (hr_s:Ar h a_s c_s s) (f:AP→Option Bool) {fn_f:Fn} {fa_f fc_f:Array Value} (hf_f:Pd h (.func fn_f fa_f fc_f) f) {r:Int} (H:AR n s f=some r) :
  Calls Try.prog 112 #[.slice a_s s.length c_s,.func fn_f fa_f fc_f] w (D6 (fun h v=>v=.int .i64 r) h w):=by
 refine enter 19 [.c (.slice a_s s.length c_s),.c (.func fn_f fa_f fc_f)] Try.func112 rfl rfl rfl rfl fun t hk=>?_
 have hm:=Ah.begin h w hh
 unfold AR at H
 refine QT (Ab (Rk 0 1 [tS 0 a_s s.length c_s,(1,.one (.c (.func fn_f fa_f fc_f)))] hk hm fun a8 al=>?_))
 refine wf (QT (QT (Ab (Rk 0 3 ((tI 8 0)::(FU s a_s c_s fn_f fa_f fc_f)) al hm fun bc ap=>?_))))
 refine wf ?_
 obtain⟨ae,ac,H⟩:=A3 H
 refine A7 (fun a' w'=>∃ (af:Unit)(ab:Array Value)(m:Ad),a' = ⟨ab,[]⟩∧Kn 19 [] [] ab∧Ah ⟨w,h,Az⟩ m [] [] [] w'∧Ad.le h m∧ae=.go af) ?_ ?_
 ·
  refine wp_block ?_
  refine A5 (fun a3 a' w'=>∃ (x_v10:Int)(aa:Array Value)(g:Ad),a' = ⟨aa,[]⟩∧Kn 19 [] ((tI 8 x_v10)::(FU s a_s c_s fn_f fa_f fc_f)) aa∧Ah ⟨w,h,Az⟩ g [] [] [] w'∧Ad.le h g∧Ay a3 s f x_v10=some ae) n ?_ ?_
  ·
   exact QY 0 ⟨_,_,rfl,ap.kp,hm,Ad.le_refl _,ac⟩
  ·
   rintro z _ bi ⟨x_v10,aa,g,rfl,ak,d,i,a⟩
   clear ac
   obtain _ | z:=z
   ·
    rw [Ay] at a; cases a
   rw [Ay] at a
   replace hr_s:=hr_s.mono i
   replace hf_f:=hf_f.mono i
   refine QT (Ab (Rk 0 1 ((tB 9 (decide (x_v10<((s.length:Nat):Int))))::(tI 8 x_v10)::(FU s a_s c_s fn_f fa_f fc_f)) ak d fun a9 u=>?_))
   refine wf (QT (wC (decide (x_v10<((s.length:Nat):Int))) u (fun p=>?_) (fun p=>?_)))
   ·
    rw [p,QW] at a
    refine wp_skip (QT (wp_block (QT (Ab (Rk 0 2 ((tI 5 x_v10)::(tI 8 x_v10)::(FU s a_s c_s fn_f fa_f fc_f)) u d fun ba am=>?_)))))
    refine wf (QT (Ab (Rk 0 3 ((tI 13 x_v10)::(tS 12 a_s s.length c_s)::(11,.one (.c (.func fn_f fa_f fc_f)))::(tI 5 x_v10)::(tI 8 x_v10)::(FU s a_s c_s fn_f fa_f fc_f)) am d fun bb an=>?_)))
    obtain⟨x14,ex14,a⟩:=A3 a
    obtain⟨az,a0,a2⟩:=Ak ex14
    obtain⟨e,l,a5,ai,a1,aj⟩:=hr_s.get (by decide) a2
    obtain⟨_,_,rfl,rfl,rfl⟩:=a1
    have y:=d.addPlc (b:=e) (o:=l+(x_v10:Int).toNat*2) (cs:=[.int .i64 x14.stop,.int .i64 x14.tm]) (fun j c hj=>aj j _ (Al hj)) rfl (by kernel_rfl) (by kernel_rfl)
    refine A6 3 (x_v10) rfl rfl (rfl) rfl (by decide) an (by rfl) (by rfl) (by rfl) ai (by rfl) az a0 (by kernel_rfl) fun a4 (ao:Kn 19 [(e,l+(x_v10:Int).toNat*2)] ((tP 14 0 0)::(tI 13 x_v10)::(tS 12 a_s s.length c_s)::(11,.one (.c (.func fn_f fa_f fc_f)))::(tI 5 x_v10)::(tI 8 x_v10)::(FU s a_s c_s fn_f fa_f fc_f)) a4)=>?_
    refine Rk 4 1 ((tA 15 [.int .i64 x14.stop,.int .i64 x14.tm])::(11,.one (.c (.func fn_f fa_f fc_f)))::(tI 5 x_v10)::(tI 8 x_v10)::(FU s a_s c_s fn_f fa_f fc_f)) ao y fun bd aq=>?_
    obtain⟨x16,ex16,a⟩:=A3 a
    refine wl fun K hK=>?_
    refine CN (.func fn_f fa_f fc_f) [.agg [.int .i64 x14.stop,.int .i64 x14.tm]] _ aq y rfl rfl (by decide) (by rfl) (by rfl) rfl (hf_f _ _ (Ad.le_refl _) y.has x14 _ ((Aa Ac Ac):rep g x14 _) _ ex16) fun bh a6 bj ah ay k=>?_
    obtain rfl:=ah
    refine⟨.one (.c (.bool x16)),rfl,fun ag (ar:Kn 19 [(e,l+(x_v10:Int).toNat*2)] ((tB 16 x16)::(tA 15 [.int .i64 x14.stop,.int .i64 x14.tm])::(11,.one (.c (.func fn_f fa_f fc_f)))::(tI 5 x_v10)::(tI 8 x_v10)::(FU s a_s c_s fn_f fa_f fc_f)) ag)=>hK _ _ ?_⟩
    have x:Kn 19 [(e,l+(x_v10:Int).toNat*2)] ((tB 16 x16)::(tI 5 x_v10)::(tI 8 x_v10)::(FU s a_s c_s fn_f fa_f fc_f)) ag:=ar.kp
    refine wf (wC (x16) x (fun q=>?_) (fun q=>?_))
    ·
     rw [q,QW] at a
     refine QT (Ab (Rk 0 2 [tI 4 x_v10] x k fun be au=>?_))
     refine wf (wp_ret ?_)
     obtain rfl:=QZ a
     obtain rfl:=QZ H
     exact rt (.one (.c (.int .i64 x_v10))) au k rfl
    ·
     rw [q,QV] at a
     refine wp_skip (Ab (Rk 0 2 ((tI 8 (IntKind.i64.wrap (x_v10+1)))::(FU s a_s c_s fn_f fa_f fc_f)) x k fun bf av=>?_))
     refine wf ?_
     exact QY z ⟨Nat.lt_succ_self _,QY (IntKind.i64.wrap (x_v10+1)) ⟨_,_,rfl,(av.keep [8,7,0,1] (by rfl)).cut 0 (by kernel_rfl),k.cutPl 0 (by kernel_rfl),QU i ay,a⟩⟩
   ·
    rw [p,QV] at a
    refine wp_exit ?_
    obtain rfl:=QZ a
    exact QY () ⟨_,_,rfl,u.kp,d,i,rfl⟩
 ·
  rintro _ bk ⟨af,ab,m,rfl,aw,ad,a7,rfl⟩
  rw [Ex.bind_go] at H
  refine QT (Ab (Rk 0 1 [tI 4 (-1)] aw ad fun bg ax=>?_))
  refine wf (wp_ret ?_)
  obtain rfl:=QZ H
  exact rt (.one (.c (.int .i64 (-1)))) ax ad rfl
set_option maxRecDepth 100000 in
set_option maxHeartbeats 4000000 in
theorem C6 (n:Nat) {h:Ad} {w:World} (hh:Dv h w) (s:List Rg) {a_s:Option Addr} {c_s:Nat} (hr_s:Ar h a_s c_s s) (f:Rg→Option Bool) {fn_f:Fn} {fa_f fc_f:Array Value} (hf_f:Pb h (.func fn_f fa_f fc_f) f) {r:Bool} (H:AM n s f=some r) :
  Calls Try.prog 100 #[.slice a_s s.length c_s,.func fn_f fa_f fc_f] w (D6 (fun h v=>v=.bool r) h w):=by
 refine enter 9 [.c (.slice a_s s.length c_s),.c (.func fn_f fa_f fc_f)] Try.func100 rfl rfl rfl rfl fun t hk=>?_
 have hm:=Ah.begin h w hh
 unfold AM at H
 refine QT (Ab (Rk 0 1 [tS 0 a_s s.length c_s,(1,.one (.c (.func fn_f fa_f fc_f)))] hk hm fun m g=>?_))
 refine wf (QT (Ab (Rk 0 2 [(6,.one (.c (.func fn_f fa_f fc_f))),tS 5 a_s s.length c_s] g hm fun p i=>?_)))
 obtain⟨x7,ex7,H⟩:=A3 H
 refine wl fun K hK=>?_
 refine wc [.c (.slice a_s s.length c_s),.c (.func fn_f fa_f fc_f)] i hm (CP n hm.has s hr_s f hf_f ex7) fun q k u b l a=>?_
 obtain rfl:=b
 refine⟨.one (.c (.int .i64 x7)),rfl,fun j (d:Kn 9 [] [tI 7 x7,(6,.one (.c (.func fn_f fa_f fc_f))),tS 5 a_s s.length c_s] j)=>hK _ _ ?_⟩
 refine Rk 3 2 [tB 4 (decide (x7≥0))] d a fun o e=>?_
 refine wf (wp_ret ?_)
 obtain rfl:=QZ H
 exact rt (.one (.c (.bool (decide (x7≥0))))) e a rfl
set_option maxRecDepth 100000 in
set_option maxHeartbeats 4000000 in
theorem CT (n:Nat) {h:Ad} {w:World} (hh:Dv h w) (s:List Ct) {a_s:Option Addr} {c_s:Nat} (hr_s:Ar h a_s c_s s) (f:Ct→Option Bool) {fn_f:Fn} {fa_f fc_f:Array Value} (hf_f:Pc h (.func fn_f fa_f fc_f) f) {r:Bool} (H:AT n s f=some r) :
  Calls Try.prog 102 #[.slice a_s s.length c_s,.func fn_f fa_f fc_f] w (D6 (fun h v=>v=.bool r) h w):=by
 refine enter 9 [.c (.slice a_s s.length c_s),.c (.func fn_f fa_f fc_f)] Try.func102 rfl rfl rfl rfl fun t hk=>?_
 have hm:=Ah.begin h w hh
 unfold AT at H
 refine QT (Ab (Rk 0 1 [tS 0 a_s s.length c_s,(1,.one (.c (.func fn_f fa_f fc_f)))] hk hm fun m g=>?_))
 refine wf (QT (Ab (Rk 0 2 [(6,.one (.c (.func fn_f fa_f fc_f))),tS 5 a_s s.length c_s] g hm fun p i=>?_)))
 obtain⟨x7,ex7,H⟩:=A3 H
 refine wl fun K hK=>?_
 refine wc [.c (.slice a_s s.length c_s),.c (.func fn_f fa_f fc_f)] i hm (Di n hm.has s hr_s f hf_f ex7) fun q k u b l a=>?_
 obtain rfl:=b
 refine⟨.one (.c (.int .i64 x7)),rfl,fun j (d:Kn 9 [] [tI 7 x7,(6,.one (.c (.func fn_f fa_f fc_f))),tS 5 a_s s.length c_s] j)=>hK _ _ ?_⟩
 refine Rk 3 2 [tB 4 (decide (x7≥0))] d a fun o e=>?_
 refine wf (wp_ret ?_)
 obtain rfl:=QZ H
 exact rt (.one (.c (.bool (decide (x7≥0))))) e a rfl
set_option maxRecDepth 100000 in
set_option maxHeartbeats 4000000 in
theorem C7 (n:Nat) {h:Ad} {w:World} (hh:Dv h w) (s:List AP) {a_s:Option Addr} {c_s:Nat} (hr_s:Ar h a_s c_s s) (f:AP→Option Bool) {fn_f:Fn} {fa_f fc_f:Array Value} (hf_f:Pd h (.func fn_f fa_f fc_f) f) {r:Bool} (H:AN n s f=some r) :
  Calls Try.prog 104 #[.slice a_s s.length c_s,.func fn_f fa_f fc_f] w (D6 (fun h v=>v=.bool r) h w):=by
 refine enter 9 [.c (.slice a_s s.length c_s),.c (.func fn_f fa_f fc_f)] Try.func104 rfl rfl rfl rfl fun t hk=>?_
 have hm:=Ah.begin h w hh
 unfold AN at H
 refine QT (Ab (Rk 0 1 [tS 0 a_s s.length c_s,(1,.one (.c (.func fn_f fa_f fc_f)))] hk hm fun m g=>?_))
 refine wf (QT (Ab (Rk 0 2 [(6,.one (.c (.func fn_f fa_f fc_f))),tS 5 a_s s.length c_s] g hm fun p i=>?_)))
 obtain⟨x7,ex7,H⟩:=A3 H
 refine wl fun K hK=>?_
 refine wc [.c (.slice a_s s.length c_s),.c (.func fn_f fa_f fc_f)] i hm (CQ n hm.has s hr_s f hf_f ex7) fun q k u b l a=>?_
 obtain rfl:=b
 refine⟨.one (.c (.int .i64 x7)),rfl,fun j (d:Kn 9 [] [tI 7 x7,(6,.one (.c (.func fn_f fa_f fc_f))),tS 5 a_s s.length c_s] j)=>hK _ _ ?_⟩
 refine Rk 3 2 [tB 4 (decide (x7≥0))] d a fun o e=>?_
 refine wf (wp_ret ?_)
 obtain rfl:=QZ H
 exact rt (.one (.c (.bool (decide (x7≥0))))) e a rfl
set_option maxRecDepth 100000 in
set_option maxHeartbeats 4000000 in
theorem EP (n:Nat) {h:Ad} {w:World} (hh:Dv h w) (x:Rg) {cs_x:List Value} (hx_x:rep h x cs_x) (q0:Rg→Option Bool) {b_q0:Nat} (hb_q0:Cv h b_q0 q0) {r:Bool} (H:Bd n x q0=some r) :
  Calls Try.prog 101 #[.agg cs_x.toArray,.pointer (some ⟨b_q0,0,none⟩)] w (D6 (fun h v=>v=.bool r) h w):=by
 obtain⟨_,_,rfl,rfl,rfl⟩:=hx_x
 obtain⟨_,hx_q0,hc_q0⟩:=id hb_q0
 obtain⟨d,a,b,rfl,l⟩:=hx_q0
 refine FN (e:=[(b_q0,0)]) 8 [.agg [.int .i64 x.lo,.int .i64 x.hi],.c (.ptr 0 0)] Try.func101 rfl rfl rfl rfl fun t hk=>?_
 have hm:=Ah.begin h w hh
 replace hm:=hm.addPlc (o:=0) (cs:=[.func d a b]) (fun j c hj=>by rw [Nat.zero_add]; exact hc_q0 j _ (Al hj)) rfl (by kernel_rfl) (by kernel_rfl)
 replace hm:Ah ⟨w,h,Az⟩ h [(b_q0,0)] [⟨[.func d a b],none⟩] [] w:=hm
 unfold Bd at H
 refine QT (Ab (wl fun K hK=>?_))
 refine wb (.agg [.int .i64 x.lo,.int .i64 x.hi]) hk hm fun g z ah (u:Kn 8 [(b_q0,0),(g,0)] [tP 2 1 0,tA 0 [.int .i64 x.lo,.int .i64 x.hi],tP 1 0 0] z) f=>hK _ _ ?_
 refine Rk 1 1 [tP 2 1 0,tP 1 0 0] u f fun ac m=>?_
 refine wf (QT (Ab (Rk 0 2 [tA 5 [.int .i64 x.lo,.int .i64 x.hi],(4,.one (.c (.func d a b)))] m f fun ad p=>?_)))
 obtain⟨x6,ex6,H⟩:=A3 H
 refine wl fun K hK=>?_
 refine CN (.func d a b) [.agg [.int .i64 x.lo,.int .i64 x.hi]] _ p f rfl rfl (by decide) (by rfl) (by rfl) rfl (l _ _ (Ad.le_refl _) f.has x _ ((Aa Ac Ac):rep h x _) _ ex6) fun af aa ag k ab i=>?_
 obtain rfl:=k
 refine⟨.one (.c (.bool x6)),rfl,fun y (q:Kn 8 [(b_q0,0),(g,0)] [tB 6 x6,tA 5 [.int .i64 x.lo,.int .i64 x.hi],(4,.one (.c (.func d a b)))] y)=>hK _ _ ?_⟩
 refine Rk 3 2 [tB 3 (!x6)] q i fun ae s=>?_
 refine wf (wp_ret ?_)
 obtain rfl:=QZ H
 exact rt (.one (.c (.bool (!x6)))) s i rfl
abbrev J3 (x:Ct):List SC:=[.int .i64 x.stop,.int .i64 x.tm.lo,.int .i64 x.tm.hi]
set_option maxRecDepth 100000 in
set_option maxHeartbeats 4000000 in
theorem Fk (n:Nat) {h:Ad} {w:World} (hh:Dv h w) (x:Ct) {cs_x:List Value} (hx_x:rep h x cs_x) (q0:Ct→Option Bool) {b_q0:Nat} (hb_q0:Cv h b_q0 q0) {r:Bool} (H:Bn n x q0=some r) :
  Calls Try.prog 103 #[.agg cs_x.toArray,.pointer (some ⟨b_q0,0,none⟩)] w (D6 (fun h v=>v=.bool r) h w):=by
 obtain⟨_,_,rfl,rfl,⟨_,_,rfl,rfl,rfl⟩⟩:=hx_x
 obtain⟨_,hx_q0,hc_q0⟩:=id hb_q0
 obtain⟨d,a,b,rfl,l⟩:=hx_q0
 refine FN (e:=[(b_q0,0)]) 8 [.agg (J3 x),.c (.ptr 0 0)] Try.func103 rfl rfl rfl rfl fun t hk=>?_
 have hm:=Ah.begin h w hh
 replace hm:=hm.addPlc (o:=0) (cs:=[.func d a b]) (fun j c hj=>by rw [Nat.zero_add]; exact hc_q0 j _ (Al hj)) rfl (by kernel_rfl) (by kernel_rfl)
 replace hm:Ah ⟨w,h,Az⟩ h [(b_q0,0)] [⟨[.func d a b],none⟩] [] w:=hm
 unfold Bn at H
 refine QT (Ab (wl fun K hK=>?_))
 refine wb (.agg (J3 x)) hk hm fun g z ah (u:Kn 8 [(b_q0,0),(g,0)] [tP 2 1 0,tA 0 (J3 x),tP 1 0 0] z) f=>hK _ _ ?_
 refine Rk 1 1 [tP 2 1 0,tP 1 0 0] u f fun ac m=>?_
 refine wf (QT (Ab (Rk 0 2 [tA 5 (J3 x),(4,.one (.c (.func d a b)))] m f fun ad p=>?_)))
 obtain⟨x6,ex6,H⟩:=A3 H
 refine wl fun K hK=>?_
 refine CN (.func d a b) [.agg (J3 x)] _ p f rfl rfl (by decide) (by rfl) (by rfl) rfl (l _ _ (Ad.le_refl _) f.has x _ ((Aa Ac (Aa Ac Ac)):rep h x _) _ ex6) fun af aa ag k ab i=>?_
 obtain rfl:=k
 refine⟨.one (.c (.bool x6)),rfl,fun y (q:Kn 8 [(b_q0,0),(g,0)] [tB 6 x6,tA 5 (J3 x),(4,.one (.c (.func d a b)))] y)=>hK _ _ ?_⟩
 refine Rk 3 2 [tB 3 (!x6)] q i fun ae s=>?_
 refine wf (wp_ret ?_)
 obtain rfl:=QZ H
 exact rt (.one (.c (.bool (!x6)))) s i rfl
set_option maxRecDepth 100000 in
set_option maxHeartbeats 4000000 in
theorem EQ (n:Nat) {h:Ad} {w:World} (hh:Dv h w) (x:AP) {cs_x:List Value} (hx_x:rep h x cs_x) (q0:AP→Option Bool) {b_q0:Nat} (hb_q0:Cv h b_q0 q0) {r:Bool} (H:Be n x q0=some r) :
  Calls Try.prog 105 #[.agg cs_x.toArray,.pointer (some ⟨b_q0,0,none⟩)] w (D6 (fun h v=>v=.bool r) h w):=by
 obtain⟨_,_,rfl,rfl,rfl⟩:=hx_x
 obtain⟨_,hx_q0,hc_q0⟩:=id hb_q0
 obtain⟨d,a,b,rfl,l⟩:=hx_q0
 refine FN (e:=[(b_q0,0)]) 8 [.agg [.int .i64 x.stop,.int .i64 x.tm],.c (.ptr 0 0)] Try.func105 rfl rfl rfl rfl fun t hk=>?_
 have hm:=Ah.begin h w hh
 replace hm:=hm.addPlc (o:=0) (cs:=[.func d a b]) (fun j c hj=>by rw [Nat.zero_add]; exact hc_q0 j _ (Al hj)) rfl (by kernel_rfl) (by kernel_rfl)
 replace hm:Ah ⟨w,h,Az⟩ h [(b_q0,0)] [⟨[.func d a b],none⟩] [] w:=hm
 unfold Be at H
 refine QT (Ab (wl fun K hK=>?_))
 refine wb (.agg [.int .i64 x.stop,.int .i64 x.tm]) hk hm fun g z ah (u:Kn 8 [(b_q0,0),(g,0)] [tP 2 1 0,tA 0 [.int .i64 x.stop,.int .i64 x.tm],tP 1 0 0] z) f=>hK _ _ ?_
 refine Rk 1 1 [tP 2 1 0,tP 1 0 0] u f fun ac m=>?_
 refine wf (QT (Ab (Rk 0 2 [tA 5 [.int .i64 x.stop,.int .i64 x.tm],(4,.one (.c (.func d a b)))] m f fun ad p=>?_)))
 obtain⟨x6,ex6,H⟩:=A3 H
 refine wl fun K hK=>?_
 refine CN (.func d a b) [.agg [.int .i64 x.stop,.int .i64 x.tm]] _ p f rfl rfl (by decide) (by rfl) (by rfl) rfl (l _ _ (Ad.le_refl _) f.has x _ ((Aa Ac Ac):rep h x _) _ ex6) fun af aa ag k ab i=>?_
 obtain rfl:=k
 refine⟨.one (.c (.bool x6)),rfl,fun y (q:Kn 8 [(b_q0,0),(g,0)] [tB 6 x6,tA 5 [.int .i64 x.stop,.int .i64 x.tm],(4,.one (.c (.func d a b)))] y)=>hK _ _ ?_⟩
 refine Rk 3 2 [tB 3 (!x6)] q i fun ae s=>?_
 refine wf (wp_ret ?_)
 obtain rfl:=QZ H
 exact rt (.one (.c (.bool (!x6)))) s i rfl
set_option maxRecDepth 100000 in
set_option maxHeartbeats 4000000 in
theorem Fm (n:Nat) {h:Ad} {w:World} (hh:Dv h w) (l:List Rg) {a_l:Option Addr} {c_l:Nat} (hr_l:Ar h a_l c_l l) (right:Rg→Option Bool) {fn_right:Fn} {fa_right fc_right:Array Value} (hf_right:Pb h (.func fn_right fa_right fc_right) right) {r:Bool} (H:CC n l right=some r) :
  Calls Try.prog 80 #[.slice a_l l.length c_l,.func fn_right fa_right fc_right] w (D6 (fun h v=>v=.bool r) h w):=by
 refine enter 9 [.c (.slice a_l l.length c_l),.c (.func fn_right fa_right fc_right)] Try.func80 rfl rfl rfl rfl fun t hk=>?_
 have hm:=Ah.begin h w hh
 unfold CC at H
 refine QT (Ab (wl fun K hK=>?_))
 refine wb (.c (.func fn_right fa_right fc_right)) hk hm fun a aa ac (u:Kn 9 [(a,0)] [tP 3 0 0,tS 0 a_l l.length c_l,(1,.one (.c (.func fn_right fa_right fc_right)))] aa) f=>hK _ _ ?_
 refine Rk 1 1 [tP 3 0 0,tS 0 a_l l.length c_l] u f fun ah x=>?_
 refine wf (QT (Ab (Rk 0 1 [tS 5 a_l l.length c_l,tP 3 0 0] x f fun ai y=>?_)))
 obtain⟨b,j,g,d⟩:=f.settlePlc (i:=0) rfl
 replace hr_l:=hr_l.mono j
 replace hf_right:=hf_right.mono j
 replace d:Ah ⟨w,h,Az⟩ b [(a,0)] [⟨[.func fn_right fa_right fc_right],none⟩] [] ac:=d
 have o:Cv b a (right:Rg→Option Bool):=Cv.of (e:=[(a,0)]) (cs:=[.func fn_right fa_right fc_right]) (⟨_,_,_,rfl,hf_right⟩:rep b (right:Rg→Option Bool) _) rfl g
 have ae:A8 b a [.func fn_right fa_right fc_right]:=A8.of (e:=[(a,0)]) (cs:=[.func fn_right fa_right fc_right]) rfl g
 refine Fw 1 #[] #[.pointer (some ⟨a,0,none⟩)] y rfl rfl (rfl) rfl (by decide) (by rfl) (by rfl) (by rfl) (by rfl) fun z (p:Kn 9 [(a,0)] [(6,.one (.c (.func (.func 101) #[] #[.pointer (some ⟨a,0,none⟩)]))),tS 5 a_l l.length c_l,tP 3 0 0] z)=>?_
 obtain⟨x7,ex7,H⟩:=A3 H
 refine wl fun K hK=>?_
 refine wc [.c (.slice a_l l.length c_l),.c (.func (.func 101) #[] #[.pointer (some ⟨a,0,none⟩)])] p d (C6 n d.has l hr_l (fun(y0:Rg)=>Bd n y0 right) (show Pb b (.func (.func 101) #[] #[.pointer (some ⟨a,0,none⟩)]) (fun(y0:Rg)=>Bd n y0 right) from fun h2 w2 hle hh y0 cs0 hy0 r H=>⟨101,_,_,rfl,fun _ _=>by kernel_rfl,EP n hh y0 hy0 right (o.mono hle) H⟩) ex7) fun aj ad ak m af k=>?_
 obtain rfl:=m
 refine⟨.one (.c (.bool x7)),rfl,fun ab (q:Kn 9 [(a,0)] [tB 7 x7,(6,.one (.c (.func (.func 101) #[] #[.pointer (some ⟨a,0,none⟩)]))),tS 5 a_l l.length c_l,tP 3 0 0] ab)=>hK _ _ ?_⟩
 refine Rk 3 2 [tB 4 (!x7)] q k fun ag s=>?_
 refine wf (wp_ret ?_)
 obtain rfl:=QZ H
 exact rt (.one (.c (.bool (!x7)))) s k rfl
set_option maxRecDepth 100000 in
set_option maxHeartbeats 4000000 in
theorem F3 (n:Nat) {h:Ad} {w:World} (hh:Dv h w) (l:List Ct) {a_l:Option Addr} {c_l:Nat} (hr_l:Ar h a_l c_l l) (right:Ct→Option Bool) {fn_right:Fn} {fa_right fc_right:Array Value} (hf_right:Pc h (.func fn_right fa_right fc_right) right) {r:Bool} (H:Db n l right=some r) :
  Calls Try.prog 82 #[.slice a_l l.length c_l,.func fn_right fa_right fc_right] w (D6 (fun h v=>v=.bool r) h w):=by
 refine enter 9 [.c (.slice a_l l.length c_l),.c (.func fn_right fa_right fc_right)] Try.func82 rfl rfl rfl rfl fun t hk=>?_
 have hm:=Ah.begin h w hh
 unfold Db at H
 refine QT (Ab (wl fun K hK=>?_))
 refine wb (.c (.func fn_right fa_right fc_right)) hk hm fun a aa ac (u:Kn 9 [(a,0)] [tP 3 0 0,tS 0 a_l l.length c_l,(1,.one (.c (.func fn_right fa_right fc_right)))] aa) f=>hK _ _ ?_
 refine Rk 1 1 [tP 3 0 0,tS 0 a_l l.length c_l] u f fun ah x=>?_
 refine wf (QT (Ab (Rk 0 1 [tS 5 a_l l.length c_l,tP 3 0 0] x f fun ai y=>?_)))
 obtain⟨b,j,g,d⟩:=f.settlePlc (i:=0) rfl
 replace hr_l:=hr_l.mono j
 replace hf_right:=hf_right.mono j
 replace d:Ah ⟨w,h,Az⟩ b [(a,0)] [⟨[.func fn_right fa_right fc_right],none⟩] [] ac:=d
 have o:Cv b a (right:Ct→Option Bool):=Cv.of (e:=[(a,0)]) (cs:=[.func fn_right fa_right fc_right]) (⟨_,_,_,rfl,hf_right⟩:rep b (right:Ct→Option Bool) _) rfl g
 have ae:A8 b a [.func fn_right fa_right fc_right]:=A8.of (e:=[(a,0)]) (cs:=[.func fn_right fa_right fc_right]) rfl g
 refine Fw 1 #[] #[.pointer (some ⟨a,0,none⟩)] y rfl rfl (rfl) rfl (by decide) (by rfl) (by rfl) (by rfl) (by rfl) fun z (p:Kn 9 [(a,0)] [(6,.one (.c (.func (.func 103) #[] #[.pointer (some ⟨a,0,none⟩)]))),tS 5 a_l l.length c_l,tP 3 0 0] z)=>?_
 obtain⟨x7,ex7,H⟩:=A3 H
 refine wl fun K hK=>?_
 refine wc [.c (.slice a_l l.length c_l),.c (.func (.func 103) #[] #[.pointer (some ⟨a,0,none⟩)])] p d (CT n d.has l hr_l (fun(y0:Ct)=>Bn n y0 right) (show Pc b (.func (.func 103) #[] #[.pointer (some ⟨a,0,none⟩)]) (fun(y0:Ct)=>Bn n y0 right) from fun h2 w2 hle hh y0 cs0 hy0 r H=>⟨103,_,_,rfl,fun _ _=>by kernel_rfl,Fk n hh y0 hy0 right (o.mono hle) H⟩) ex7) fun aj ad ak m af k=>?_
 obtain rfl:=m
 refine⟨.one (.c (.bool x7)),rfl,fun ab (q:Kn 9 [(a,0)] [tB 7 x7,(6,.one (.c (.func (.func 103) #[] #[.pointer (some ⟨a,0,none⟩)]))),tS 5 a_l l.length c_l,tP 3 0 0] ab)=>hK _ _ ?_⟩
 refine Rk 3 2 [tB 4 (!x7)] q k fun ag s=>?_
 refine wf (wp_ret ?_)
 obtain rfl:=QZ H
 exact rt (.one (.c (.bool (!x7)))) s k rfl
set_option maxRecDepth 100000 in
set_option maxHeartbeats 4000000 in
theorem Fo (n:Nat) {h:Ad} {w:World} (hh:Dv h w) (l:List AP) {a_l:Option Addr} {c_l:Nat} (hr_l:Ar h a_l c_l l) (right:AP→Option Bool) {fn_right:Fn} {fa_right fc_right:Array Value} (hf_right:Pd h (.func fn_right fa_right fc_right) right) {r:Bool} (H:CD n l right=some r) :
  Calls Try.prog 83 #[.slice a_l l.length c_l,.func fn_right fa_right fc_right] w (D6 (fun h v=>v=.bool r) h w):=by
 refine enter 9 [.c (.slice a_l l.length c_l),.c (.func fn_right fa_right fc_right)] Try.func83 rfl rfl rfl rfl fun t hk=>?_
 have hm:=Ah.begin h w hh
 unfold CD at H
 refine QT (Ab (wl fun K hK=>?_))
 refine wb (.c (.func fn_right fa_right fc_right)) hk hm fun a aa ac (u:Kn 9 [(a,0)] [tP 3 0 0,tS 0 a_l l.length c_l,(1,.one (.c (.func fn_right fa_right fc_right)))] aa) f=>hK _ _ ?_
 refine Rk 1 1 [tP 3 0 0,tS 0 a_l l.length c_l] u f fun ah x=>?_
 refine wf (QT (Ab (Rk 0 1 [tS 5 a_l l.length c_l,tP 3 0 0] x f fun ai y=>?_)))
 obtain⟨b,j,g,d⟩:=f.settlePlc (i:=0) rfl
 replace hr_l:=hr_l.mono j
 replace hf_right:=hf_right.mono j
 replace d:Ah ⟨w,h,Az⟩ b [(a,0)] [⟨[.func fn_right fa_right fc_right],none⟩] [] ac:=d
 have o:Cv b a (right:AP→Option Bool):=Cv.of (e:=[(a,0)]) (cs:=[.func fn_right fa_right fc_right]) (⟨_,_,_,rfl,hf_right⟩:rep b (right:AP→Option Bool) _) rfl g
 have ae:A8 b a [.func fn_right fa_right fc_right]:=A8.of (e:=[(a,0)]) (cs:=[.func fn_right fa_right fc_right]) rfl g
 refine Fw 1 #[] #[.pointer (some ⟨a,0,none⟩)] y rfl rfl (rfl) rfl (by decide) (by rfl) (by rfl) (by rfl) (by rfl) fun z (p:Kn 9 [(a,0)] [(6,.one (.c (.func (.func 105) #[] #[.pointer (some ⟨a,0,none⟩)]))),tS 5 a_l l.length c_l,tP 3 0 0] z)=>?_
 obtain⟨x7,ex7,H⟩:=A3 H
 refine wl fun K hK=>?_
 refine wc [.c (.slice a_l l.length c_l),.c (.func (.func 105) #[] #[.pointer (some ⟨a,0,none⟩)])] p d (C7 n d.has l hr_l (fun(y0:AP)=>Be n y0 right) (show Pd b (.func (.func 105) #[] #[.pointer (some ⟨a,0,none⟩)]) (fun(y0:AP)=>Be n y0 right) from fun h2 w2 hle hh y0 cs0 hy0 r H=>⟨105,_,_,rfl,fun _ _=>by kernel_rfl,EQ n hh y0 hy0 right (o.mono hle) H⟩) ex7) fun aj ad ak m af k=>?_
 obtain rfl:=m
 refine⟨.one (.c (.bool x7)),rfl,fun ab (q:Kn 9 [(a,0)] [tB 7 x7,(6,.one (.c (.func (.func 105) #[] #[.pointer (some ⟨a,0,none⟩)]))),tS 5 a_l l.length c_l,tP 3 0 0] ab)=>hK _ _ ?_⟩
 refine Rk 3 2 [tB 4 (!x7)] q k fun ag s=>?_
 refine wf (wp_ret ?_)
 obtain rfl:=QZ H
 exact rt (.one (.c (.bool (!x7)))) s k rfl
abbrev HO (l:Option Addr) (r_:Ag) (p:Nat) (m:Option Addr) (q:Nat) (o:Option Addr) (s:Nat):List SC:=[.slice l r_.legs.length p,.int .i64 r_.turn.lo,.int .i64 r_.turn.hi,.slice m r_.buses.length q,.slice o r_.spares.length s,.int .i64 r_.unit,.int .i64 r_.gap,.int .i64 r_.fr,.int .i64 r_.to_]
abbrev D8 (a:Nat):TM:=[(4,.one (.c (.func (.func 77) #[] #[.pointer (some ⟨a,0,none⟩)]))),(3,.one (.c (.func (.func 75) #[] #[.pointer (some ⟨a,0,none⟩)]))),tP 1 0 0]
abbrev MV (a:Nat):TM:=[(4,.one (.c (.func (.func 77) #[] #[.pointer (some ⟨a,0,none⟩)]))),tP 1 0 0]
set_option maxRecDepth 100000 in
set_option maxHeartbeats 4000000 in
theorem Cw (n:Nat) {h:Ad} {w:World} (hh:Dv h w) (r_:Ag) {cs_r_:List Value} (hx_r_:rep h r_ cs_r_) {r:Int} (H:BM n r_=some r) :
  Calls Try.prog 50 #[.agg cs_r_.toArray] w (D6 (fun h v=>v=.int .i64 r) h w):=by
 obtain⟨_,_,rfl,⟨l,p,rfl,d⟩,⟨_,_,rfl,⟨_,_,rfl,rfl,rfl⟩,⟨_,_,rfl,⟨m,q,rfl,f⟩,⟨_,_,rfl,⟨o,s,rfl,g⟩,⟨_,_,rfl,rfl,⟨_,_,rfl,rfl,⟨_,_,rfl,rfl,rfl⟩⟩⟩⟩⟩⟩⟩:=hx_r_
 refine enter 85 [.agg (HO l r_ p m q o s)] Try.func50 rfl rfl rfl rfl fun t hk=>?_
 have hm:=Ah.begin h w hh
 unfold BM at H
 refine QT (Ab (wl fun K hK=>?_))
 refine wb (.agg (HO l r_ p m q o s)) hk hm fun a ee ep (c3:Kn 85 [(a,0)] [tP 1 0 0,tA 0 (HO l r_ p m q o s)] ee) b4=>hK _ _ ?_
 refine Rk 1 1 [tP 1 0 0] c3 b4 fun e4 c9=>?_
 refine wf (QT (Ab ?_))
 obtain⟨ak,bc,bf,y⟩:=b4.settlePlc (i:=0) rfl
 replace d:=d.mono bc
 replace f:=f.mono bc
 replace g:=g.mono bc
 replace y:Ah ⟨w,h,Az⟩ ak [(a,0)] [⟨HO l r_ p m q o s,none⟩] [] ep:=y
 have j:Cv ak a (r_:Ag):=Cv.of (e:=[(a,0)]) (cs:=(HO l r_ p m q o s)) ((Aa (Ae d) (Aa (Aa Ac Ac) (Aa (Ae f) (Aa (Ae g) (Aa Ac (Aa Ac (Aa Ac Ac))))))):rep ak (r_:Ag) _) rfl bf
 have k:A8 ak a [.slice l r_.legs.length p,.int .i64 r_.turn.lo,.int .i64 r_.turn.hi,.slice m r_.buses.length q,.slice o r_.spares.length s,.int .i64 r_.unit,.int .i64 r_.gap,.int .i64 r_.fr,.int .i64 r_.to_]:=A8.of (e:=[(a,0)]) (cs:=[.slice l r_.legs.length p,.int .i64 r_.turn.lo,.int .i64 r_.turn.hi,.slice m r_.buses.length q,.slice o r_.spares.length s,.int .i64 r_.unit,.int .i64 r_.gap,.int .i64 r_.fr,.int .i64 r_.to_]) rfl bf
 refine Fw 0 #[] #[.pointer (some ⟨a,0,none⟩)] c9 rfl rfl (rfl) rfl (by decide) (by rfl) (by rfl) (by rfl) (by rfl) fun el (ds:Kn 85 [(a,0)] [(5,.one (.c (.func (.func 75) #[] #[.pointer (some ⟨a,0,none⟩)]))),tP 1 0 0] el)=>?_
 refine Rk 1 1 [(3,.one (.c (.func (.func 75) #[] #[.pointer (some ⟨a,0,none⟩)]))),tP 1 0 0] ds y fun fj dt=>?_
 refine wf (QT (Ab (Fw 0 #[] #[.pointer (some ⟨a,0,none⟩)] dt rfl rfl (rfl) rfl (by decide) (by rfl) (by rfl) (by rfl) (by rfl) fun em (du:Kn 85 [(a,0)] [(6,.one (.c (.func (.func 77) #[] #[.pointer (some ⟨a,0,none⟩)]))),(3,.one (.c (.func (.func 75) #[] #[.pointer (some ⟨a,0,none⟩)]))),tP 1 0 0] em)=>?_)))
 refine Rk 1 1 (D8 a) du y fun fk dv=>?_
 refine wf (QT (wp_block (QT ?_)))
 obtain⟨b5,a4,H⟩:=A3 H
 refine A7 (fun a' w'=>∃ (bd:Array Value)(al:Ad),a' = ⟨bd,[]⟩∧Kn 85 [(a,0)] [(4,.one (.c (.func (.func 77) #[] #[.pointer (some ⟨a,0,none⟩)]))),(3,.one (.c (.func (.func 75) #[] #[.pointer (some ⟨a,0,none⟩)]))),tP 1 0 0,tB 7 b5] bd∧Ah ⟨w,h,Az⟩ al [(a,0)] [⟨HO l r_ p m q o s,none⟩] [] w'∧Ad.le ak al) ?_ ?_
 ·
  refine Ab (Rk 0 5 ((tB 12 (decide (((r_.buses.length:Nat):Int)>4)))::(D8 a)) dv y fun cd bv=>?_)
  rcases Bool.eq_false_or_eq_true (decide (((r_.buses.length:Nat):Int)>4)) with au | au
  ·
   rw [au,QW] at a4
   have dw:Kn 85 [(a,0)] ((tB 12 true)::(D8 a)) cd:=(bv.setB 12 true (by rfl) au).kp
   refine Rk 5 6 ((tB 7 true)::(D8 a)) dw y fun fl dx=>?_
   refine wf ?_
   obtain rfl:=QZ a4
   exact QY _ ⟨_,rfl,dx.kp,y,Ad.le_refl _⟩
  ·
   rw [au,QV] at a4
   have dy:Kn 85 [(a,0)] ((tB 12 false)::(D8 a)) cd:=(bv.setB 12 false (by rfl) au).kp
   refine Rk 5 6 ((tB 7 (decide (((r_.spares.length:Nat):Int)>2)))::(D8 a)) dy y fun fm dz=>?_
   refine wf ?_
   obtain rfl:=QZ a4
   exact QY _ ⟨_,rfl,dz.kp,y,Ad.le_refl _⟩
 ·
  rintro _ gb ⟨bd,al,rfl,bb,ab,a2⟩
  replace d:=d.mono a2
  replace f:=f.mono a2
  replace g:=g.mono a2
  replace j:=j.mono a2
  replace k:=k.mono a2
  refine wC (b5) bb (fun a8=>?_) (fun a8=>?_)
  ·
   rw [a8,QW] at H
   refine QT (Ab (Rk 0 1 [tI 2 3] bb ab fun fn d0=>?_))
   refine wf (wp_ret ?_)
   obtain rfl:=QZ H
   exact rt (.one (.c (.int .i64 3))) d0 ab rfl
  ·
   rw [a8,QV] at H
   refine QT ?_
   obtain⟨b6,b,H⟩:=A3 H
   refine A7 (fun a' w'=>∃ (be:Array Value)(a5:Ad),a' = ⟨be,[]⟩∧Kn 85 [(a,0)] [tP 1 0 0,tB 18 b6] be∧Ah ⟨w,h,Az⟩ a5 [(a,0)] [⟨HO l r_ p m q o s,none⟩] [] w'∧Ad.le al a5) ?_ ?_
   ·
    refine Ab (Rk 0 6 ((tB 24 ((Int.tmod ((r_.legs.length:Nat):Int) 2) == 0))::(D8 a)) bb ab fun ce bw=>?_)
    rcases Bool.eq_false_or_eq_true (((Int.tmod ((r_.legs.length:Nat):Int) 2) == 0)) with av | av
    ·
     rw [av,QW] at b
     have d1:Kn 85 [(a,0)] ((tB 24 true)::(D8 a)) ce:=(bw.setB 24 true (by rfl) av).kp
     refine Rk 6 31 [tB 18 true,tP 1 0 0] d1 ab fun fo d2=>?_
     refine wf ?_
     obtain rfl:=QZ b
     exact QY _ ⟨_,rfl,d2.kp,ab,Ad.le_refl _⟩
    ·
     rw [av,QV] at b
     have d3:Kn 85 [(a,0)] ((tB 24 false)::(D8 a)) ce:=(bw.setB 24 false (by rfl) av).kp
     refine Rk 6 1 ((tA 25 (HO l r_ p m q o s))::(tB 24 false)::(D8 a)) d3 ab fun fp bx=>?_
     obtain⟨x26,ex26,b⟩:=A3 b
     refine Aq _ rfl (Ai bx (by kernel_rfl)) fun K hK=>?_
     refine wc [.agg (HO l r_ p m q o s)] bx ab (De n ab.has r_ ((Aa (Ae d) (Aa (Aa Ac Ac) (Aa (Ae f) (Aa (Ae g) (Aa Ac (Aa Ac (Aa Ac Ac))))))):rep al r_ _) ex26) fun f1 cr gc cn u ai=>?_
     replace d:=d.mono u
     replace f:=f.mono u
     replace g:=g.mono u
     replace j:=j.mono u
     replace k:=k.mono u
     obtain rfl:=cn
     refine⟨.one (.c (.int .i64 x26)),rfl,fun en (d4:Kn 85 [(a,0)] ((tI 26 x26)::(tA 25 (HO l r_ p m q o s))::(tB 24 false)::(D8 a)) en)=>hK _ _ ?_⟩
     refine Rk 8 3 ((tB 29 (decide (x26>4)))::(D8 a)) d4 ai fun cf bz=>?_
     rcases Bool.eq_false_or_eq_true (decide (x26>4)) with aw | aw
     ·
      rw [aw,QW] at b
      have d5:Kn 85 [(a,0)] ((tB 29 true)::(D8 a)) cf:=(bz.setB 29 true (by rfl) aw).kp
      refine Rk 11 26 [tB 18 true,tP 1 0 0] d5 ai fun fq d6=>?_
      refine wf ?_
      obtain rfl:=QZ b
      exact QY _ ⟨_,rfl,d6.kp,ai,u⟩
     ·
      rw [aw,QV] at b
      have d7:Kn 85 [(a,0)] ((tB 29 false)::(D8 a)) cf:=(bz.setB 29 false (by rfl) aw).kp
      refine Rk 11 2 ((tS 31 l r_.legs.length p)::(tB 29 false)::(D8 a)) d7 ai fun fs b0=>?_
      obtain⟨x32,ex32,b⟩:=A3 b
      refine Aq _ rfl (Ai b0 (by kernel_rfl)) fun K hK=>?_
      refine wc [.c (.slice l r_.legs.length p),.c (.func (.func 81) #[] #[])] b0 ai (Fm n ai.has r_.legs d (fun(y0:Rg)=>BL n y0) (show Pb cr (.func (.func 81) #[] #[]) (fun(y0:Rg)=>BL n y0) from fun h2 w2 hle hh y0 cs0 hy0 r H=>⟨81,_,_,rfl,fun _ _=>by kernel_rfl,E6 n hh y0 hy0 H⟩) ex32) fun f2 ct gd co x aj=>?_
      replace d:=d.mono x
      replace f:=f.mono x
      replace g:=g.mono x
      replace j:=j.mono x
      replace k:=k.mono x
      obtain rfl:=co
      refine⟨.one (.c (.bool x32)),rfl,fun eo (d8:Kn 85 [(a,0)] ((tB 32 x32)::(tS 31 l r_.legs.length p)::(tB 29 false)::(D8 a)) eo)=>hK _ _ ?_⟩
      refine Rk 14 3 ((tB 35 (!x32))::(D8 a)) d8 aj fun cg b1=>?_
      rcases Bool.eq_false_or_eq_true ((!x32)) with ax | ax
      ·
       rw [ax,QW] at b
       have d9:Kn 85 [(a,0)] ((tB 35 true)::(D8 a)) cg:=(b1.setB 35 true (by rfl) ax).kp
       refine Rk 17 20 [tB 18 true,tP 1 0 0] d9 aj fun ft ea=>?_
       refine wf ?_
       obtain rfl:=QZ b
       exact QY _ ⟨_,rfl,ea.kp,aj,QU u x⟩
      ·
       rw [ax,QV] at b
       have eb:Kn 85 [(a,0)] ((tB 35 false)::(D8 a)) cg:=(b1.setB 35 false (by rfl) ax).kp
       refine Rk 17 2 ((tA 37 [.int .i64 r_.turn.lo,.int .i64 r_.turn.hi])::(tB 35 false)::(D8 a)) eb aj fun fu b2=>?_
       obtain⟨x38,ex38,b⟩:=A3 b
       refine Aq _ rfl (Ai b2 (by kernel_rfl)) fun K hK=>?_
       refine wc [.agg [.int .i64 r_.turn.lo,.int .i64 r_.turn.hi]] b2 aj (E6 n aj.has r_.turn ((Aa Ac Ac):rep ct r_.turn _) ex38) fun f3 cu gf cp aa ag=>?_
       replace d:=d.mono aa
       replace f:=f.mono aa
       replace g:=g.mono aa
       replace j:=j.mono aa
       replace k:=k.mono aa
       obtain rfl:=cp
       refine⟨.one (.c (.bool x38)),rfl,fun ed (cv:Kn 85 [(a,0)] ((tB 38 x38)::(tA 37 [.int .i64 r_.turn.lo,.int .i64 r_.turn.hi])::(tB 35 false)::(D8 a)) ed)=>hK _ _ ?_⟩
       refine Rk 20 3 ((tB 41 (!x38))::(D8 a)) cv ag fun b7 bg=>?_
       rcases Bool.eq_false_or_eq_true ((!x38)) with am | am
       ·
        rw [am,QW] at b
        have cw:Kn 85 [(a,0)] ((tB 41 true)::(D8 a)) b7:=(bg.setB 41 true (by rfl) am).kp
        refine Rk 23 14 [tB 18 true,tP 1 0 0] cw ag fun ex cx=>?_
        refine wf ?_
        obtain rfl:=QZ b
        exact QY _ ⟨_,rfl,cx.kp,ag,QU u (QU x aa)⟩
       ·
        rw [am,QV] at b
        have cy:Kn 85 [(a,0)] ((tB 41 false)::(D8 a)) b7:=(bg.setB 41 false (by rfl) am).kp
        refine Rk 23 3 ((44,.one (.c (.func (.func 75) #[] #[.pointer (some ⟨a,0,none⟩)])))::(tS 43 m r_.buses.length q)::(tB 41 false)::(MV a)) cy ag fun ey bh=>?_
        obtain⟨x45,ex45,b⟩:=A3 b
        refine Aq _ rfl (Ai bh (by kernel_rfl)) fun K hK=>?_
        refine wc [.c (.slice m r_.buses.length q),.c (.func (.func 75) #[] #[.pointer (some ⟨a,0,none⟩)])] bh ag (F3 n ag.has r_.buses f (fun(y0:Ct)=>BR n y0 r_) (show Pc cu (.func (.func 75) #[] #[.pointer (some ⟨a,0,none⟩)]) (fun(y0:Ct)=>BR n y0 r_) from fun h2 w2 hle hh y0 cs0 hy0 r H=>⟨75,_,_,rfl,fun _ _=>by kernel_rfl,FP n hh y0 hy0 r_ (j.mono hle) H⟩) ex45) fun fv cq f4 ch ac ah=>?_
        replace d:=d.mono ac
        replace f:=f.mono ac
        replace g:=g.mono ac
        replace j:=j.mono ac
        replace k:=k.mono ac
        obtain rfl:=ch
        refine⟨.one (.c (.bool x45)),rfl,fun ef (cz:Kn 85 [(a,0)] ((tB 45 x45)::(44,.one (.c (.func (.func 75) #[] #[.pointer (some ⟨a,0,none⟩)])))::(tS 43 m r_.buses.length q)::(tB 41 false)::(MV a)) ef)=>hK _ _ ?_⟩
        refine Rk 27 3 ((tB 48 (!x45))::(MV a)) cz ah fun b8 bi=>?_
        rcases Bool.eq_false_or_eq_true ((!x45)) with an | an
        ·
         rw [an,QW] at b
         have c0:Kn 85 [(a,0)] ((tB 48 true)::(MV a)) b8:=(bi.setB 48 true (by rfl) an).kp
         refine Rk 30 7 [tB 18 true,tP 1 0 0] c0 ah fun ez c1=>?_
         refine wf ?_
         obtain rfl:=QZ b
         exact QY _ ⟨_,rfl,c1.kp,ah,QU u (QU x (QU aa ac))⟩
        ·
         rw [an,QV] at b
         have c2:Kn 85 [(a,0)] ((tB 48 false)::(MV a)) b8:=(bi.setB 48 false (by rfl) an).kp
         refine Rk 30 3 [(51,.one (.c (.func (.func 77) #[] #[.pointer (some ⟨a,0,none⟩)]))),tS 50 o r_.spares.length s,tB 48 false,tP 1 0 0] c2 ah fun e0 bj=>?_
         obtain⟨x52,ex52,b⟩:=A3 b
         refine Aq _ rfl (Ai bj (by kernel_rfl)) fun K hK=>?_
         refine wc [.c (.slice o r_.spares.length s),.c (.func (.func 77) #[] #[.pointer (some ⟨a,0,none⟩)])] bj ah (Fo n ah.has r_.spares g (fun(y0:AP)=>BS n y0 r_) (show Pd cq (.func (.func 77) #[] #[.pointer (some ⟨a,0,none⟩)]) (fun(y0:AP)=>BS n y0 r_) from fun h2 w2 hle hh y0 cs0 hy0 r H=>⟨77,_,_,rfl,fun _ _=>by kernel_rfl,FQ n hh y0 hy0 r_ (j.mono hle) H⟩) ex52) fun fw er f5 ci ec b3=>?_
         obtain rfl:=ci
         refine⟨.one (.c (.bool x52)),rfl,fun eg (c4:Kn 85 [(a,0)] [tB 52 x52,(51,.one (.c (.func (.func 77) #[] #[.pointer (some ⟨a,0,none⟩)]))),tS 50 o r_.spares.length s,tB 48 false,tP 1 0 0] eg)=>hK _ _ ?_⟩
         refine Rk 34 3 [tB 18 (!x52),tP 1 0 0] c4 b3 fun e1 c5=>?_
         refine wf ?_
         obtain rfl:=QZ b
         exact QY _ ⟨_,rfl,c5.kp,b3,QU u (QU x (QU aa (QU ac ec)))⟩
   ·
    rintro _ f6 ⟨be,a5,rfl,a9,a3,ay⟩
    replace d:=d.mono ay
    replace f:=f.mono ay
    replace g:=g.mono ay
    replace j:=j.mono ay
    replace k:=k.mono ay
    refine wC (b6) a9 (fun a6=>?_) (fun a6=>?_)
    ·
     rw [a6,QW] at H
     refine QT (Ab (Rk 0 1 [tI 2 1] a9 a3 fun e2 c6=>?_))
     refine wf (wp_ret ?_)
     obtain rfl:=QZ H
     exact rt (.one (.c (.int .i64 1))) c6 a3 rfl
    ·
     rw [a6,QV] at H
     refine QT (Ab (Rk 0 2 [tI 57 r_.unit,tP 1 0 0] a9 a3 fun e3 c7=>?_))
     obtain⟨x58,ex58,H⟩:=A3 H
     refine wl fun K hK=>?_
     refine wc [.c (.int .i64 r_.unit),.c (.int .i64 1),.c (.int .i64 30)] c7 a3 (BI n a3.has r_.unit 1 30 ex58) fun fx es f7 cj az ad=>?_
     replace d:=d.mono az
     replace f:=f.mono az
     replace g:=g.mono az
     replace j:=j.mono az
     replace k:=k.mono az
     obtain rfl:=cj
     refine⟨.one (.c (.bool x58)),rfl,fun eh (c8:Kn 85 [(a,0)] [tB 58 x58,tI 57 r_.unit,tP 1 0 0] eh)=>hK _ _ ?_⟩
     refine Rk 3 2 [tB 60 (!x58),tP 1 0 0] c8 ad fun b9 bk=>?_
     rcases Bool.eq_false_or_eq_true ((!x58)) with ao | ao
     ·
      rw [ao,QW] at H
      have da:Kn 85 [(a,0)] [tB 60 true,tP 1 0 0] b9:=(bk.setB 60 true (by rfl) ao).kp
      refine Rk 5 25 [tB 55 true] da ad fun e5 bl=>?_
      refine wf (wC true bl (fun hb=>?_) (fun hb=>?_))
      rotate_left
      ·
       cases hb
      refine QT (Ab (Rk 0 1 [tI 2 1] bl ad fun e6 db=>?_))
      refine wf (wp_ret ?_)
      obtain rfl:=QZ H
      exact rt (.one (.c (.int .i64 1))) db ad rfl
     ·
      rw [ao,QV] at H
      have dc:Kn 85 [(a,0)] [tB 60 false,tP 1 0 0] b9:=(bk.setB 60 false (by rfl) ao).kp
      refine Rk 5 2 [tI 62 r_.gap,tB 60 false,tP 1 0 0] dc ad fun e7 bm=>?_
      obtain⟨x63,ex63,H⟩:=A3 H
      refine Aq _ rfl (Ai bm (by kernel_rfl)) fun K hK=>?_
      refine wc [.c (.int .i64 r_.gap)] bm ad (D7 n ad.has r_.gap ex63) fun fy et f8 ck a0 ae=>?_
      replace d:=d.mono a0
      replace f:=f.mono a0
      replace g:=g.mono a0
      replace j:=j.mono a0
      replace k:=k.mono a0
      obtain rfl:=ck
      refine⟨.one (.c (.bool x63)),rfl,fun ei (dd:Kn 85 [(a,0)] [tB 63 x63,tI 62 r_.gap,tB 60 false,tP 1 0 0] ei)=>hK _ _ ?_⟩
      refine Rk 8 3 [tB 66 (!x63),tP 1 0 0] dd ae fun ca bn=>?_
      rcases Bool.eq_false_or_eq_true ((!x63)) with ap | ap
      ·
       rw [ap,QW] at H
       have de:Kn 85 [(a,0)] [tB 66 true,tP 1 0 0] ca:=(bn.setB 66 true (by rfl) ap).kp
       refine Rk 11 19 [tB 55 true] de ae fun e8 bo=>?_
       refine wf (wC true bo (fun hb=>?_) (fun hb=>?_))
       rotate_left
       ·
        cases hb
       refine QT (Ab (Rk 0 1 [tI 2 1] bo ae fun e9 df=>?_))
       refine wf (wp_ret ?_)
       obtain rfl:=QZ H
       exact rt (.one (.c (.int .i64 1))) df ae rfl
      ·
       rw [ap,QV] at H
       have dg:Kn 85 [(a,0)] [tB 66 false,tP 1 0 0] ca:=(bn.setB 66 false (by rfl) ap).kp
       refine Rk 11 2 [tI 68 r_.fr,tB 66 false,tP 1 0 0] dg ae fun fa bp=>?_
       obtain⟨x69,ex69,H⟩:=A3 H
       refine Aq _ rfl (Ai bp (by kernel_rfl)) fun K hK=>?_
       refine wc [.c (.int .i64 r_.fr)] bp ae (D7 n ae.has r_.fr ex69) fun fz eu f9 cl a1 af=>?_
       replace d:=d.mono a1
       replace f:=f.mono a1
       replace g:=g.mono a1
       replace j:=j.mono a1
       replace k:=k.mono a1
       obtain rfl:=cl
       refine⟨.one (.c (.bool x69)),rfl,fun ej (dh:Kn 85 [(a,0)] [tB 69 x69,tI 68 r_.fr,tB 66 false,tP 1 0 0] ej)=>hK _ _ ?_⟩
       refine Rk 14 3 [tB 72 (!x69),tP 1 0 0] dh af fun cb bq=>?_
       rcases Bool.eq_false_or_eq_true ((!x69)) with aq | aq
       ·
        rw [aq,QW] at H
        have di:Kn 85 [(a,0)] [tB 72 true,tP 1 0 0] cb:=(bq.setB 72 true (by rfl) aq).kp
        refine Rk 17 13 [tB 55 true] di af fun fb br=>?_
        refine wf (wC true br (fun hb=>?_) (fun hb=>?_))
        rotate_left
        ·
         cases hb
        refine QT (Ab (Rk 0 1 [tI 2 1] br af fun fc dj=>?_))
        refine wf (wp_ret ?_)
        obtain rfl:=QZ H
        exact rt (.one (.c (.int .i64 1))) dj af rfl
       ·
        rw [aq,QV] at H
        have dk:Kn 85 [(a,0)] [tB 72 false,tP 1 0 0] cb:=(bq.setB 72 false (by rfl) aq).kp
        refine Rk 17 2 [tI 74 r_.to_,tB 72 false,tP 1 0 0] dk af fun fd bs=>?_
        obtain⟨x75,ex75,H⟩:=A3 H
        refine Aq _ rfl (Ai bs (by kernel_rfl)) fun K hK=>?_
        refine wc [.c (.int .i64 r_.to_)] bs af (D7 n af.has r_.to_ ex75) fun f0 ev ga cm ew z=>?_
        obtain rfl:=cm
        refine⟨.one (.c (.bool x75)),rfl,fun ek (dl:Kn 85 [(a,0)] [tB 75 x75,tI 74 r_.to_,tB 72 false,tP 1 0 0] ek)=>hK _ _ ?_⟩
        refine Rk 20 3 [tB 78 (!x75),tP 1 0 0] dl z fun cc bt=>?_
        rcases Bool.eq_false_or_eq_true ((!x75)) with ar | ar
        ·
         rw [ar,QW] at H
         have dm:Kn 85 [(a,0)] [tB 78 true,tP 1 0 0] cc:=(bt.setB 78 true (by rfl) ar).kp
         refine Rk 23 7 [tB 55 true] dm z fun fe bu=>?_
         refine wf (wC true bu (fun hb=>?_) (fun hb=>?_))
         rotate_left
         ·
          cases hb
         refine QT (Ab (Rk 0 1 [tI 2 1] bu z fun ff dn=>?_))
         refine wf (wp_ret ?_)
         obtain rfl:=QZ H
         exact rt (.one (.c (.int .i64 1))) dn z rfl
        ·
         rw [ar,QV] at H
         have dp:Kn 85 [(a,0)] [tB 78 false,tP 1 0 0] cc:=(bt.setB 78 false (by rfl) ar).kp
         refine Rk 23 7 [tB 55 (decide (r_.fr>r_.to_))] dp z fun fg ba=>?_
         refine wf (wC (decide (r_.fr>r_.to_)) ba (fun a7=>?_) (fun a7=>?_))
         ·
          rw [a7,QW] at H
          refine QT (Ab (Rk 0 1 [tI 2 1] ba z fun fh dq=>?_))
          refine wf (wp_ret ?_)
          obtain rfl:=QZ H
          exact rt (.one (.c (.int .i64 1))) dq z rfl
         ·
          rw [a7,QV] at H
          refine wp_skip (QT (Ab (Rk 0 1 [tI 2 0] ba z fun fi dr=>?_)))
          refine wf (wp_ret ?_)
          obtain rfl:=QZ H
          exact rt (.one (.c (.int .i64 0))) dr z rfl
abbrev L5 (a:Option Addr) (r_:Ag) (e:Nat) (b:Option Addr) (f:Nat) (d:Option Addr) (g:Nat):List SC:=[.slice a r_.legs.length e,.int .i64 r_.turn.lo,.int .i64 r_.turn.hi,.slice b r_.buses.length f,.slice d r_.spares.length g,.int .i64 r_.unit,.int .i64 r_.gap,.int .i64 r_.fr,.int .i64 r_.to_]
set_option maxRecDepth 100000 in
set_option maxHeartbeats 4000000 in
theorem CA (n:Nat) {h:Ad} {w:World} (hh:Dv h w) (r_:Ag) {cs_r_:List Value} (hx_r_:rep h r_ cs_r_) {r:Int} (H:Cc n r_=some r) :
  Calls Try.prog 49 #[.agg cs_r_.toArray] w (D6 (fun h v=>v=.int .i64 r) h w):=by
 obtain⟨_,_,rfl,⟨a,e,rfl,u⟩,⟨_,_,rfl,⟨_,_,rfl,rfl,rfl⟩,⟨_,_,rfl,⟨b,f,rfl,x⟩,⟨_,_,rfl,⟨d,g,rfl,y⟩,⟨_,_,rfl,rfl,⟨_,_,rfl,rfl,⟨_,_,rfl,rfl,rfl⟩⟩⟩⟩⟩⟩⟩:=hx_r_
 refine enter 5 [.agg (L5 a r_ e b f d g)] Try.func49 rfl rfl rfl rfl fun t hk=>?_
 have hm:=Ah.begin h w hh
 unfold Cc at H
 refine QT (Ab (wl fun K hK=>?_))
 refine wb (.agg (L5 a r_ e b f d g)) hk hm fun j z ah (m:Kn 5 [(j,0)] [tP 1 0 0,tA 0 (L5 a r_ e b f d g)] z) i=>hK _ _ ?_
 refine Rk 1 1 [tP 1 0 0] m i fun ad o=>?_
 refine wf (QT (Ab (Rk 0 1 [tA 3 (L5 a r_ e b f d g)] o i fun ae p=>?_)))
 obtain⟨x4,ex4,H⟩:=A3 H
 refine wl fun K hK=>?_
 refine wc [.agg (L5 a r_ e b f d g)] p i (Cw n i.has r_ ((Aa (Ae u) (Aa (Aa Ac Ac) (Aa (Ae x) (Aa (Ae y) (Aa Ac (Aa Ac (Aa Ac Ac))))))):rep h r_ _) ex4) fun ag ab ai l ac k=>?_
 obtain rfl:=l
 refine⟨.one (.c (.int .i64 x4)),rfl,fun aa (q:Kn 5 [(j,0)] [tI 4 x4,tA 3 (L5 a r_ e b f d g)] aa)=>hK _ _ ?_⟩
 refine Rk 2 1 [tI 2 x4] q k fun af s=>?_
 refine wf (wp_ret ?_)
 obtain rfl:=QZ H
 exact rt (.one (.c (.int .i64 x4))) s k rfl
abbrev Gh (x44:Ct):List SC:=[.int .i64 x44.stop,.int .i64 x44.tm.lo,.int .i64 x44.tm.hi]
abbrev JK (q:Option Addr) (a:A0) (u:Nat) (s:Option Addr) (x:Nat) (ac:Option Addr) (ad:Nat):List SC:=[.slice q a.holds.length u,.slice s a.turns.length x,.slice ac a.spares.length ad]
abbrev Fp (k:Option Addr) (r_:Ag) (m:Nat) (d:Option Addr) (e:Nat) (l:Option Addr) (p:Nat):List SC:=[.slice k r_.legs.length m,.int .i64 r_.turn.lo,.int .i64 r_.turn.hi,.slice d r_.buses.length e,.slice l r_.spares.length p,.int .i64 r_.unit,.int .i64 r_.gap,.int .i64 r_.fr,.int .i64 r_.to_]
abbrev Ed (x_v10:Int) (r_:Ag) (d:Option Addr) (e:Nat):TM:=[tI 41 x_v10,tI 40 ((r_.buses.length:Nat):Int),tS 39 d r_.buses.length e,tP 3 1 0,tP 2 0 0]
abbrev Fq:TM:=[tP 3 1 0,tP 2 0 0]
set_option maxRecDepth 100000 in
set_option maxHeartbeats 4000000 in
theorem D4 (n:Nat) {h:Ad} {w:World} (hh:Dv h w) (r_:Ag) {cs_r_:List Value} (hx_r_:rep h r_ cs_r_) (a:A0) {cs_a:List Value} (hx_a:rep h a cs_a) {r:Int} (H:C1 n r_ a=some r) :
  Calls Try.prog 63 #[.agg cs_r_.toArray,.agg cs_a.toArray] w (D6 (fun h v=>v=.int .i64 r) h w):=by
 obtain⟨_,_,rfl,⟨k,m,rfl,ae⟩,⟨_,_,rfl,⟨_,_,rfl,rfl,rfl⟩,⟨_,_,rfl,⟨d,e,rfl,aa⟩,⟨_,_,rfl,⟨l,p,rfl,af⟩,⟨_,_,rfl,rfl,⟨_,_,rfl,rfl,⟨_,_,rfl,rfl,rfl⟩⟩⟩⟩⟩⟩⟩:=hx_r_
 obtain⟨_,_,rfl,⟨q,u,rfl,ah⟩,⟨_,_,rfl,⟨s,x,rfl,ai⟩,⟨ac,ad,rfl,al⟩⟩⟩:=hx_a
 refine enter 65 [.agg (Fp k r_ m d e l p),.agg (JK q a u s x ac ad)] Try.func63 rfl rfl rfl rfl fun t hk=>?_
 have hm:=Ah.begin h w hh
 unfold C1 at H
 refine QT (Ab (wl fun K hK=>?_))
 refine wb (.agg (Fp k r_ m d e l p)) hk hm fun f d3 e7 (cx:Kn 65 [(f,0)] [tP 2 0 0,tA 0 (Fp k r_ m d e l p),tA 1 (JK q a u s x ac ad)] d3) dg=>hK _ _ ?_
 refine wl fun K hK=>?_
 refine wb (.agg (JK q a u s x ac ad)) cx dg fun i d4 e8 (cy:Kn 65 [(f,0),(i,0)] [tP 3 1 0,tP 2 0 0,tA 0 (Fp k r_ m d e l p),tA 1 (JK q a u s x ac ad)] d4) a1=>hK _ _ ?_
 refine Rk 2 1 Fq cy a1 fun em cz=>?_
 refine wf (QT (QT (Ab (Rk 0 1 ((tA 8 (Fp k r_ m d e l p))::Fq) cz a1 fun en c0=>?_))))
 obtain⟨x9,ex9,H⟩:=A3 H
 refine wl fun K hK=>?_
 refine wc [.agg (Fp k r_ m d e l p)] c0 a1 (Cw n a1.has r_ ((Aa (Ae ae) (Aa (Aa Ac Ac) (Aa (Ae aa) (Aa (Ae af) (Aa Ac (Aa Ac (Aa Ac Ac))))))):rep h r_ _) ex9) fun e1 b6 e9 b5 aq y=>?_
 replace ae:=ae.mono aq
 replace aa:=aa.mono aq
 replace af:=af.mono aq
 replace ah:=ah.mono aq
 replace ai:=ai.mono aq
 replace al:=al.mono aq
 obtain rfl:=b5
 refine⟨.one (.c (.int .i64 x9)),rfl,fun d5 (c1:Kn 65 [(f,0),(i,0)] ((tI 9 x9)::(tA 8 (Fp k r_ m d e l p))::Fq) d5)=>hK _ _ ?_⟩
 refine Rk 2 1 ((tI 5 x9)::Fq) c1 y fun eo c2=>?_
 refine wf (QT (Ab (Rk 0 2 ((tB 11 (x9 != 0))::(tI 5 x9)::Fq) c2 y fun ep bc=>?_)))
 refine wf (wC ((x9 != 0)) bc (fun a8=>?_) (fun a8=>?_))
 ·
  rw [a8,QW] at H
  refine QT (Ab (Rk 0 2 [tI 4 x9] bc y fun er c3=>?_))
  refine wf (wp_ret ?_)
  obtain rfl:=QZ H
  exact rt (.one (.c (.int .i64 x9))) c3 y rfl
 ·
  rw [a8,QV] at H
  refine wp_skip (QT (QT ?_))
  obtain⟨bw,an,H⟩:=A3 H
  refine A7 (fun a' w'=>∃ (bi:Array Value)(av:Ad),a' = ⟨bi,[]⟩∧Kn 65 [(f,0),(i,0)] [tP 3 1 0,tP 2 0 0,tB 37 bw] bi∧Ah ⟨w,h,Az⟩ av [(f,0),(i,0)] [⟨Fp k r_ m d e l p,some 43⟩,⟨JK q a u s x ac ad,some 34⟩] [] w'∧Ad.le b6 av) ?_ ?_
  ·
   refine Ab (Rk 0 8 ((tB 20 (((a.holds.length:Nat):Int) != ((r_.buses.length:Nat):Int)))::Fq) bc y fun b1 br=>?_)
   rcases Bool.eq_false_or_eq_true ((((a.holds.length:Nat):Int) != ((r_.buses.length:Nat):Int))) with ax | ax
   ·
    rw [ax,QW] at an
    have c4:Kn 65 [(f,0),(i,0)] ((tB 20 true)::Fq) b1:=(br.setB 20 true (by rfl) ax).kp
    refine Rk 8 17 ((tB 37 true)::Fq) c4 y fun es c5=>?_
    refine wf ?_
    obtain rfl:=QZ an
    exact QY _ ⟨_,rfl,c5.kp,y,Ad.le_refl _⟩
   ·
    rw [ax,QV] at an
    have c6:Kn 65 [(f,0),(i,0)] ((tB 20 false)::Fq) b1:=(br.setB 20 false (by rfl) ax).kp
    refine Rk 8 9 ((tB 29 (((a.turns.length:Nat):Int) != ((r_.buses.length:Nat):Int)))::Fq) c6 y fun b2 bs=>?_
    rcases Bool.eq_false_or_eq_true ((((a.turns.length:Nat):Int) != ((r_.buses.length:Nat):Int))) with ay | ay
    ·
     rw [ay,QW] at an
     have c7:Kn 65 [(f,0),(i,0)] ((tB 29 true)::Fq) b2:=(bs.setB 29 true (by rfl) ay).kp
     refine Rk 17 8 ((tB 37 true)::Fq) c7 y fun et c8=>?_
     refine wf ?_
     obtain rfl:=QZ an
     exact QY _ ⟨_,rfl,c8.kp,y,Ad.le_refl _⟩
    ·
     rw [ay,QV] at an
     have c9:Kn 65 [(f,0),(i,0)] ((tB 29 false)::Fq) b2:=(bs.setB 29 false (by rfl) ay).kp
     refine Rk 17 8 ((tB 37 (((a.spares.length:Nat):Int) != ((r_.spares.length:Nat):Int)))::Fq) c9 y fun eu da=>?_
     refine wf ?_
     obtain rfl:=QZ an
     exact QY _ ⟨_,rfl,da.kp,y,Ad.le_refl _⟩
  ·
   rintro _ fa ⟨bi,av,rfl,bd,a2,ar⟩
   replace ae:=ae.mono ar
   replace aa:=aa.mono ar
   replace af:=af.mono ar
   replace ah:=ah.mono ar
   replace ai:=ai.mono ar
   replace al:=al.mono ar
   refine wC (bw) bd (fun a9=>?_) (fun a9=>?_)
   ·
    rw [a9,QW] at H
    refine QT (Ab (Rk 0 1 [tI 4 2] bd a2 fun ev db=>?_))
    refine wf (wp_ret ?_)
    obtain rfl:=QZ H
    exact rt (.one (.c (.int .i64 2))) db a2 rfl
   ·
    rw [a9,QV] at H
    refine wp_skip (QT (QT (Ab (Rk 0 4 ((tI 41 0)::(tI 40 ((r_.buses.length:Nat):Int))::(tS 39 d r_.buses.length e)::Fq) bd a2 fun ew dc=>?_))))
    refine wf ?_
    obtain⟨bx,bl,H⟩:=A3 H
    refine A7 (fun a' w'=>∃ (bz:Unit)(bj:Array Value)(a5:Ad),a' = ⟨bj,[]⟩∧Kn 65 [(f,0),(i,0)] [] bj∧Ah ⟨w,h,Az⟩ a5 [(f,0),(i,0)] [⟨Fp k r_ m d e l p,some 43⟩,⟨JK q a u s x ac ad,some 34⟩] [] w'∧Ad.le av a5∧bx=.go bz) ?_ ?_
    ·
     refine wp_block ?_
     refine A5 (fun dv a' w'=>∃ (x_v10:Int)(bk:Array Value)(a6:Ad),a' = ⟨bk,[]⟩∧Kn 65 [(f,0),(i,0)] (Ed x_v10 r_ d e) bk∧Ah ⟨w,h,Az⟩ a6 [(f,0),(i,0)] [⟨Fp k r_ m d e l p,some 43⟩,⟨JK q a u s x ac ad,some 34⟩] [] w'∧Ad.le av a6∧BT dv r_ a x_v10=some bx) n ?_ ?_
     ·
      exact QY 0 ⟨_,_,rfl,dc.kp,a2,Ad.le_refl _,bl⟩
     ·
      rintro a0 _ fb ⟨x_v10,bk,a6,rfl,dd,a3,aj,g⟩
      clear bl
      obtain _ | a0:=a0
      ·
       rw [BT] at g; cases g
      rw [BT] at g
      replace ae:=ae.mono aj
      replace aa:=aa.mono aj
      replace af:=af.mono aj
      replace ah:=ah.mono aj
      replace ai:=ai.mono aj
      replace al:=al.mono aj
      refine QT (Ab (Rk 0 1 ((tB 42 (decide (x_v10<((r_.buses.length:Nat):Int))))::(Ed x_v10 r_ d e)) dd a3 fun ex be=>?_))
      refine wf (QT (wC (decide (x_v10<((r_.buses.length:Nat):Int))) be (fun ba=>?_) (fun ba=>?_)))
      ·
       rw [ba,QW] at g
       refine wp_skip (QT (wp_block (QT (Ab (Rk 0 1 ((tI 43 x_v10)::(Ed x_v10 r_ d e)) be a3 fun ey de=>?_)))))
       obtain⟨x44,ex44,g⟩:=A3 g
       obtain⟨dh,dk,ds⟩:=Ak ex44
       obtain⟨z,ab,d8,b9,dp,ca⟩:=aa.get (by decide) ds
       obtain⟨_,_,rfl,rfl,⟨_,_,rfl,rfl,rfl⟩⟩:=dp
       have bt:=a3.addPlc (b:=z) (o:=ab+(x_v10:Int).toNat*3) (cs:=(Gh x44)) (fun j c hj=>ca j _ (Al hj)) rfl (by kernel_rfl) (by kernel_rfl)
       refine A6 1 (x_v10) rfl rfl (rfl) rfl (by decide) de (by rfl) (by rfl) (by rfl) b9 (by rfl) dh dk (by kernel_rfl) fun dw (cd:Kn 65 [(f,0),(i,0),(z,ab+(x_v10:Int).toNat*3)] ((tP 44 2 0)::(tI 43 x_v10)::(Ed x_v10 r_ d e)) dw)=>?_
       refine Rk 2 1 ((tA 45 (Gh x44))::(tI 43 x_v10)::(Ed x_v10 r_ d e)) cd bt fun eb ce=>?_
       refine wl fun K hK=>?_
       refine wa [.int .i64 0,.int .i64 0,.int .i64 0] ce bt fun ag dx e2 (cf:Kn 65 [(f,0),(i,0),(z,ab+(x_v10:Int).toNat*3),(ag,0)] ((tP 7 3 0)::(tA 45 (Gh x44))::(tI 43 x_v10)::(Ed x_v10 r_ d e)) dx) bu=>hK _ _ ?_
       refine Rk 4 1 ((tI 6 x_v10)::(tP 7 3 0)::(tA 45 (Gh x44))::(Ed x_v10 r_ d e)) cf bu fun dy cg=>?_
       refine wl fun K hK=>?_
       refine Ea 3 0 (.agg (Gh x44)) (Gh x44) cg bu fun e3 ch az=>hK _ _ ?_
       have ci:Kn 65 [(f,0),(i,0),(z,ab+(x_v10:Int).toNat*3),(ag,0)] ((tI 6 x_v10)::(tP 7 3 0)::(Ed x_v10 r_ d e)) dy:=ch.kp
       refine wf (QT (Ao (by kernel_rfl) ?_))
       replace az:=az.drew
       refine At [] [(f,0),(i,0),(z,ab+(x_v10:Int).toNat*3),(ag,0)] [⟨Fp k r_ m d e l p,some 43⟩,⟨JK q a u s x ac ad,some 34⟩,⟨Gh x44,none⟩,⟨Gh x44,some 96⟩] ?_
       refine Dr [0,1,2] [2,1,0] ((tI 48 x_v10)::(tS 47 q a.holds.length u)::(tI 6 x_v10)::(tP 7 3 0)::(Ed x_v10 r_ d e)) ci az fun ec cj=>?_
       obtain⟨x49,ex49,g⟩:=A3 g
       obtain⟨di,dl,dt⟩:=Ak ex49
       obtain⟨am,ap,d6,b7,dq,cb⟩:=ah.get (by decide) dt
       obtain rfl:=dq
       have bf:=az.addPlc (b:=am) (o:=ap+(x_v10:Int).toNat*1) (cs:=[.int .i64 x49]) (fun j c hj=>cb j _ (Al hj)) rfl (by kernel_rfl) (by kernel_rfl)
       refine AY 3 (x_v10) [.int .i64 x49] (fun _ _ _ _ _ h=>h) rfl rfl (rfl) rfl (by decide) (by kernel_rfl) (by kernel_rfl) cj az.plOk (by rfl) (by rfl) (by rfl) b7 (by rfl) di dl (by kernel_rfl) fun dz (ck:Kn 65 [(f,0),(i,0),(z,ab+(x_v10:Int).toNat*3),(ag,0),(am,ap+(x_v10:Int).toNat*1)] ((tP 49 4 0)::(tI 48 x_v10)::(tS 47 q a.holds.length u)::(tI 6 x_v10)::(tP 7 3 0)::(Ed x_v10 r_ d e)) dz)=>?_
       refine Dr [4] (dn 4) ((tI 50 x49)::(tI 6 x_v10)::(tP 7 3 0)::(Ed x_v10 r_ d e)) ck bf fun ed cl=>?_
       obtain⟨x51,ex51,g⟩:=A3 g
       refine Dl 5 fun K hK=>?_
       refine wc [.c (.int .i64 x49),.c (.int .i64 0),.c (.int .i64 2)] cl bf (BI a0 bf.has x49 0 2 ex51) fun ez bm e4 b3 ao ak=>?_
       replace ae:=ae.mono ao
       replace aa:=aa.mono ao
       replace af:=af.mono ao
       replace ah:=ah.mono ao
       replace ai:=ai.mono ao
       replace al:=al.mono ao
       obtain rfl:=b3
       refine⟨.one (.c (.bool x51)),rfl,fun d0 (cm:Kn 65 [(f,0),(i,0),(z,ab+(x_v10:Int).toNat*3),(ag,0),(am,ap+(x_v10:Int).toNat*1)] ((tB 51 x51)::(tI 50 x49)::(tI 6 x_v10)::(tP 7 3 0)::(Ed x_v10 r_ d e)) d0)=>hK _ _ ak.plOk ?_⟩
       refine Dr [6,7] (dn 7) ((tB 53 (!x51))::(tI 6 x_v10)::(tP 7 3 0)::(Ed x_v10 r_ d e)) cm ak fun b0 bn=>?_
       rcases Bool.eq_false_or_eq_true ((!x51)) with aw | aw
       ·
        rw [aw,QW] at g
        have cn:Kn 65 [(f,0),(i,0),(z,ab+(x_v10:Int).toNat*3),(ag,0),(am,ap+(x_v10:Int).toNat*1)] ((tB 53 true)::(tI 6 x_v10)::(tP 7 3 0)::(Ed x_v10 r_ d e)) b0:=(bn.setB 53 true (by rfl) aw).kp
        refine Dr [8,9,10,11,12,13,14,15,16,17] (dn 17) ((tB 63 true)::(Ed x_v10 r_ d e)) cn ak fun ee bo=>?_
        refine AH (by kernel_rfl) (wC true bo (fun hb=>?_) (fun hb=>?_))
        rotate_left
        ·
         cases hb
        refine QT (Ab (Rk 0 1 [tI 4 2] bo ak fun ef co=>?_))
        refine wf (wp_ret ?_)
        obtain rfl:=QZ g
        obtain rfl:=QZ H
        exact rt (.one (.c (.int .i64 2))) co ak rfl
       ·
        rw [aw,QV] at g
        have cp:Kn 65 [(f,0),(i,0),(z,ab+(x_v10:Int).toNat*3),(ag,0),(am,ap+(x_v10:Int).toNat*1)] ((tB 53 false)::(tI 6 x_v10)::(tP 7 3 0)::(Ed x_v10 r_ d e)) b0:=(bn.setB 53 false (by rfl) aw).kp
        refine Dr [8,9,10,11,12] (dn 12) ((tI 58 x_v10)::(tS 57 s a.turns.length x)::(tA 55 (Gh x44))::(tA 54 (Fp k r_ m d e l p))::(tB 53 false)::(Ed x_v10 r_ d e)) cp ak fun eg bp=>?_
        obtain⟨x59,ex59,g⟩:=A3 g
        obtain⟨dj,dm,du⟩:=Ak ex59
        obtain⟨a4,bh,d7,b8,dr,cc⟩:=ai.get (by decide) du
        obtain rfl:=dr
        have bg:=ak.addPlc (b:=a4) (o:=bh+(x_v10:Int).toNat*1) (cs:=[.int .i64 x59]) (fun j c hj=>cc j _ (Al hj)) rfl (by kernel_rfl) (by kernel_rfl)
        refine AY 13 (x_v10) [.int .i64 x59] (fun _ _ _ _ _ h=>h) rfl rfl (Ai bp (by kernel_rfl)) rfl (by decide) (by kernel_rfl) (by kernel_rfl) bp ak.plOk (by rfl) (by rfl) (by rfl) b8 (by rfl) dj dm (by kernel_rfl) fun d1 (cq:Kn 65 [(f,0),(i,0),(z,ab+(x_v10:Int).toNat*3),(ag,0),(am,ap+(x_v10:Int).toNat*1),(a4,bh+(x_v10:Int).toNat*1)] ((tP 59 5 0)::(tI 58 x_v10)::(tS 57 s a.turns.length x)::(tA 55 (Gh x44))::(tA 54 (Fp k r_ m d e l p))::(tB 53 false)::(Ed x_v10 r_ d e)) d1)=>?_
        refine Dr [14] (dn 14) ((tI 60 x59)::(tA 55 (Gh x44))::(tA 54 (Fp k r_ m d e l p))::(tB 53 false)::(Ed x_v10 r_ d e)) cq bg fun eh bq=>?_
        obtain⟨x61,ex61,g⟩:=A3 g
        refine Gp 15 rfl (by kernel_rfl) (by decide) (Ai bq (by kernel_rfl)) fun K hK=>?_
        refine wc [.agg (Fp k r_ m d e l p),.agg (Gh x44),.c (.int .i64 x59)] bq bg (E7 a0 bg.has r_ ((Aa (Ae ae) (Aa (Aa Ac Ac) (Aa (Ae aa) (Aa (Ae af) (Aa Ac (Aa Ac (Aa Ac Ac))))))):rep bm r_ _) x44 ((Aa Ac (Aa Ac Ac)):rep bm x44 _) x59 ex61) fun e0 d9 e5 b4 df au=>?_
        obtain rfl:=b4
        refine⟨.one (.c (.bool x61)),rfl,fun d2 (cr:Kn 65 [(f,0),(i,0),(z,ab+(x_v10:Int).toNat*3),(ag,0),(am,ap+(x_v10:Int).toNat*1),(a4,bh+(x_v10:Int).toNat*1)] ((tB 61 x61)::(tI 60 x59)::(tA 55 (Gh x44))::(tA 54 (Fp k r_ m d e l p))::(tB 53 false)::(Ed x_v10 r_ d e)) d2)=>hK _ _ au.plOk ?_⟩
        refine Dr [16,17] (dn 17) ((tB 63 (!x61))::(Ed x_v10 r_ d e)) cr au fun ei bb=>?_
        refine AH (by kernel_rfl) (wC ((!x61)) bb (fun a7=>?_) (fun a7=>?_))
        ·
         rw [a7,QW] at g
         refine QT (Ab (Rk 0 1 [tI 4 2] bb au fun ej ct=>?_))
         refine wf (wp_ret ?_)
         obtain rfl:=QZ g
         obtain rfl:=QZ H
         exact rt (.one (.c (.int .i64 2))) ct au rfl
        ·
         rw [a7,QV] at g
         refine wp_skip (Ab (Rk 0 2 ((tI 41 (IntKind.i64.wrap (x_v10+1)))::(tI 40 ((r_.buses.length:Nat):Int))::(tS 39 d r_.buses.length e)::Fq) bb au fun ek cu=>?_))
         refine wf ?_
         exact QY a0 ⟨Nat.lt_succ_self _,QY (IntKind.i64.wrap (x_v10+1)) ⟨_,_,rfl,(cu.keep [41,40,39,3,2] (by rfl)).cut 2 (by kernel_rfl),au.cutPl 2 (by kernel_rfl),QU aj (QU ao df),g⟩⟩
      ·
       rw [ba,QV] at g
       refine wp_exit ?_
       obtain rfl:=QZ g
       exact QY () ⟨_,_,rfl,be.kp,a3,aj,rfl⟩
    ·
     rintro _ e6 ⟨bz,bj,a5,rfl,cv,bv,ea,rfl⟩
     rw [Ex.bind_go] at H
     refine QT (Ab (Rk 0 1 [tI 4 0] cv bv fun el cw=>?_))
     refine wf (wp_ret ?_)
     obtain rfl:=QZ H
     exact rt (.one (.c (.int .i64 0))) cw bv rfl
end Go.Proofs.Ytokchpjijlebiaa
