/- Each call computes its plain function. -/
import Derived.Test.YthcbemnflgjadaaProg
import Derived.Test.YthcbemnflgjadaaknP0
set_option linter.all false
namespace Go.Proofs.Ythcbemnflgjadaa
open Go Go.RowKit
open Rep (rep)
open KRep (kv)
open VRep (rv)
set_option maxRecDepth 100000 in
set_option maxHeartbeats 4000000 in
theorem PY (n:Nat) {h:Ac} {w:World} (hh:Dz h w) (y:Ag) {cs_y:List Value} (hx_y:rep h y cs_y) {r:Bool} (H:HW n y=some r) :
  Calls Try.prog 14 #[.agg cs_y.toArray] w (DI (fun h v=>v=.bool r) h w):=by
 obtain⟨_,_,rfl,⟨d,g,rfl,x⟩,⟨_,_,rfl,⟨e,i,rfl,z⟩,rfl⟩⟩:=hx_y
 refine enter 13 [.agg [.slice d y.room.length g,.slice e y.buses.length i,.int .i64 y.broken]] Try.func14 rfl rfl rfl rfl fun t hk=>?_
 have hm:=Am.begin h w hh
 unfold HW at H
 refine XT (Aa (wl fun K hK=>?_))
 refine wb (.agg [.slice d y.room.length g,.slice e y.buses.length i,.int .i64 y.broken]) hk hm fun f u ad (l:Kn 13 [(f,0)] [tP 1 0 0,tA 0 [.slice d y.room.length g,.slice e y.buses.length i,.int .i64 y.broken]] u) a=>hK _ _ ?_
 refine Rk 1 1 [tP 1 0 0] l a fun aa m=>?_
 refine wf (XT (Aa (Rk 0 5 [tB 7 (decide (((y.room.length:Nat):Int)≤6)),tP 1 0 0] m a fun k j=>?_)))
 rcases Bool.eq_false_or_eq_true (decide (((y.room.length:Nat):Int)≤6)) with b | b
 ·
  rw [b,XW] at H
  have o:Kn 13 [(f,0)] [tB 7 true,tP 1 0 0] k:=(j.setB 7 true (by rfl) b).kp
  refine Rk 5 6 [tB 2 (decide (((y.buses.length:Nat):Int)≤12))] o a fun ab p=>?_
  refine wf (wp_ret ?_)
  obtain rfl:=XZ H
  exact rt (.one (.c (.bool (decide (((y.buses.length:Nat):Int)≤12))))) p a rfl
 ·
  rw [b,XV] at H
  have q:Kn 13 [(f,0)] [tB 7 false,tP 1 0 0] k:=(j.setB 7 false (by rfl) b).kp
  refine Rk 5 6 [tB 2 false] q a fun ac s=>?_
  refine wf (wp_ret ?_)
  obtain rfl:=XZ H
  exact rt (.one (.c (.bool false))) s a rfl
set_option maxRecDepth 100000 in
set_option maxHeartbeats 4000000 in
theorem CU (n:Nat) {h:Ac} {w:World} (hh:Dz h w) (n_:Int) (low:Int) (high:Int) {r:Bool} (H:Cz n n_ low high=some r) :
  Calls Try.prog 70 #[.int .i64 n_,.int .i64 low,.int .i64 high] w (DI (fun h v=>v=.bool r) h w):=by
 refine enter 15 [.c (.int .i64 n_),.c (.int .i64 low),.c (.int .i64 high)] Try.func70 rfl rfl rfl rfl fun t hk=>?_
 have hm:=Am.begin h w hh
 unfold Cz at H
 refine XT (Aa (Rk 0 1 [tI 0 n_,tI 1 low,tI 2 high] hk hm fun k f=>?_))
 refine wf (XT (Aa (Rk 0 4 [tB 10 (decide (low≤n_)),tI 0 n_,tI 2 high] f hm fun d b=>?_)))
 rcases Bool.eq_false_or_eq_true (decide (low≤n_)) with a | a
 ·
  rw [a,XW] at H
  have g:Kn 15 [] [tB 10 true,tI 0 n_,tI 2 high] d:=(b.setB 10 true (by rfl) a).kp
  refine Rk 4 5 [tB 6 (decide (n_≤high))] g hm fun m i=>?_
  refine wf (wp_ret ?_)
  obtain rfl:=XZ H
  exact rt (.one (.c (.bool (decide (n_≤high))))) i hm rfl
 ·
  rw [a,XV] at H
  have j:Kn 15 [] [tB 10 false,tI 0 n_,tI 2 high] d:=(b.setB 10 false (by rfl) a).kp
  refine Rk 4 5 [tB 6 false] j hm fun l e=>?_
  refine wf (wp_ret ?_)
  obtain rfl:=XZ H
  exact rt (.one (.c (.bool false))) e hm rfl
set_option maxRecDepth 100000 in
set_option maxHeartbeats 4000000 in
theorem KB (n:Nat) {h:Ac} {w:World} (hh:Dz h w) (x:Int) (q0:Int→Option Bool) {b_q0:Nat} (hb_q0:BZ h b_q0 q0) {r:Bool} (H:C5 n x q0=some r) :
  Calls Try.prog 94 #[.int .i64 x,.pointer (some ⟨b_q0,0,none⟩)] w (DI (fun h v=>v=.bool r) h w):=by
 obtain⟨_,hx_q0,hc_q0⟩:=id hb_q0
 obtain⟨d,a,b,rfl,i⟩:=hx_q0
 refine E3 (e:=[(b_q0,0)]) 8 [.c (.int .i64 x),.c (.ptr 0 0)] Try.func94 rfl rfl rfl rfl fun t hk=>?_
 have hm:=Am.begin h w hh
 replace hm:=hm.addPlc (o:=0) (cs:=[.func d a b]) (fun j c hj=>by rw [Nat.zero_add]; exact hc_q0 j _ (Al hj)) rfl (by kernel_rfl) (by kernel_rfl)
 replace hm:Am ⟨w,h,AP⟩ h [(b_q0,0)] [⟨[.func d a b],none⟩] [] w:=hm
 unfold C5 at H
 refine XT (Aa (Rk 0 1 [tI 0 x,tP 1 0 0] hk hm fun z m=>?_))
 refine wf (XT (Aa (Rk 0 2 [tI 5 x,(4,.one (.c (.func d a b)))] m hm fun aa p=>?_)))
 obtain⟨x6,ex6,H⟩:=Aq H
 refine wl fun K hK=>?_
 refine E4 (.func d a b) [.c (.int .i64 x)] _ p hm rfl rfl (by decide) (by rfl) (by rfl) rfl (i _ _ (Ac.le_refl _) hm.has x _ ex6) fun ab s ac g u f=>?_
 obtain rfl:=g
 refine⟨.one (.c (.bool x6)),rfl,fun q (k:Kn 8 [(b_q0,0)] [tB 6 x6,tI 5 x,(4,.one (.c (.func d a b)))] q)=>hK _ _ ?_⟩
 refine Rk 3 2 [tB 3 (!x6)] k f fun y l=>?_
 refine wf (wp_ret ?_)
 obtain rfl:=XZ H
 exact rt (.one (.c (.bool (!x6)))) l f rfl
abbrev G9 (s:List Int) (a_s:Option Addr) (c_s:Nat) (fn_f:Fn) (fa_f fc_f:Array Value):TM:=[tI 7 ((s.length:Nat):Int),tS 0 a_s s.length c_s,(1,.one (.c (.func fn_f fa_f fc_f)))]
set_option maxRecDepth 100000 in
set_option maxHeartbeats 4000000 in
theorem FE (n:Nat) {h:Ac} {w:World} (hh:Dz h w) (s:List Int) {a_s:Option Addr} {c_s:Nat} (hr_s:A5 h a_s c_s s) (f:Int→Option Bool) {fn_f:Fn} {fa_f fc_f:Array Value} (hf_f:Tc h (.func fn_f fa_f fc_f) f) {r:Int} (H:Cg n s f=some r) :
  Calls Try.prog 114 #[.slice a_s s.length c_s,.func fn_f fa_f fc_f] w (DI (fun h v=>v=.int .i64 r) h w):=by
 refine enter 19 [.c (.slice a_s s.length c_s),.c (.func fn_f fa_f fc_f)] Try.func114 rfl rfl rfl rfl fun t hk=>?_
 have hm:=Am.begin h w hh
 unfold Cg at H
 refine XT (Aa (Rk 0 1 [tS 0 a_s s.length c_s,(1,.one (.c (.func fn_f fa_f fc_f)))] hk hm fun a8 al=>?_))
 refine wf (XT (XT (Aa (Rk 0 3 ((tI 8 0)::(G9 s a_s c_s fn_f fa_f fc_f)) al hm fun bc ap=>?_))))
 refine wf ?_
 obtain⟨ae,ac,H⟩:=Aq H
 refine Au (fun a' w'=>∃ (af:Unit)(ab:Array Value)(m:Ac),a' = ⟨ab,[]⟩∧Kn 19 [] [] ab∧Am ⟨w,h,AP⟩ m [] [] [] w'∧Ac.le h m∧ae=.go af) ?_ ?_
 ·
  refine wp_block ?_
  refine Ay (fun a3 a' w'=>∃ (x_v10:Int)(aa:Array Value)(l:Ac),a' = ⟨aa,[]⟩∧Kn 19 [] ((tI 8 x_v10)::(G9 s a_s c_s fn_f fa_f fc_f)) aa∧Am ⟨w,h,AP⟩ l [] [] [] w'∧Ac.le h l∧AO a3 s f x_v10=some ae) n ?_ ?_
  ·
   exact XY 0 ⟨_,_,rfl,ap.kp,hm,Ac.le_refl _,ac⟩
  ·
   rintro z _ bi ⟨x_v10,aa,l,rfl,ak,d,g,a⟩
   clear ac
   obtain _ | z:=z
   ·
    rw [AO] at a; cases a
   rw [AO] at a
   replace hr_s:=hr_s.mono g
   replace hf_f:=hf_f.mono g
   refine XT (Aa (Rk 0 1 ((tB 9 (decide (x_v10<((s.length:Nat):Int))))::(tI 8 x_v10)::(G9 s a_s c_s fn_f fa_f fc_f)) ak d fun a9 u=>?_))
   refine wf (XT (wC (decide (x_v10<((s.length:Nat):Int))) u (fun p=>?_) (fun p=>?_)))
   ·
    rw [p,XW] at a
    refine wp_skip (XT (wp_block (XT (Aa (Rk 0 2 ((tI 5 x_v10)::(tI 8 x_v10)::(G9 s a_s c_s fn_f fa_f fc_f)) u d fun ba am=>?_)))))
    refine wf (XT (Aa (Rk 0 3 ((tI 13 x_v10)::(tS 12 a_s s.length c_s)::(11,.one (.c (.func fn_f fa_f fc_f)))::(tI 5 x_v10)::(tI 8 x_v10)::(G9 s a_s c_s fn_f fa_f fc_f)) am d fun bb an=>?_)))
    obtain⟨x14,ex14,a⟩:=Aq a
    obtain⟨az,a0,a2⟩:=Ak ex14
    obtain⟨e,k,a5,ai,a1,aj⟩:=hr_s.get (by decide) a2
    obtain rfl:=a1
    have y:=d.addPlc (b:=e) (o:=k+(x_v10:Int).toNat*1) (cs:=[.int .i64 x14]) (fun j c hj=>aj j _ (Al hj)) rfl (by kernel_rfl) (by kernel_rfl)
    refine AT 3 (x_v10) rfl rfl (rfl) rfl (by decide) an (by rfl) (by rfl) (by rfl) ai (by rfl) az a0 (by kernel_rfl) fun a4 (ao:Kn 19 [(e,k+(x_v10:Int).toNat*1)] ((tP 14 0 0)::(tI 13 x_v10)::(tS 12 a_s s.length c_s)::(11,.one (.c (.func fn_f fa_f fc_f)))::(tI 5 x_v10)::(tI 8 x_v10)::(G9 s a_s c_s fn_f fa_f fc_f)) a4)=>?_
    refine Rk 4 1 ((tI 15 x14)::(11,.one (.c (.func fn_f fa_f fc_f)))::(tI 5 x_v10)::(tI 8 x_v10)::(G9 s a_s c_s fn_f fa_f fc_f)) ao y fun bd aq=>?_
    obtain⟨x16,ex16,a⟩:=Aq a
    refine wl fun K hK=>?_
    refine E4 (.func fn_f fa_f fc_f) [.c (.int .i64 x14)] _ aq y rfl rfl (by decide) (by rfl) (by rfl) rfl (hf_f _ _ (Ac.le_refl _) y.has x14 _ ex16) fun bh a6 bj ah ay i=>?_
    obtain rfl:=ah
    refine⟨.one (.c (.bool x16)),rfl,fun ag (ar:Kn 19 [(e,k+(x_v10:Int).toNat*1)] ((tB 16 x16)::(tI 15 x14)::(11,.one (.c (.func fn_f fa_f fc_f)))::(tI 5 x_v10)::(tI 8 x_v10)::(G9 s a_s c_s fn_f fa_f fc_f)) ag)=>hK _ _ ?_⟩
    have x:Kn 19 [(e,k+(x_v10:Int).toNat*1)] ((tB 16 x16)::(tI 5 x_v10)::(tI 8 x_v10)::(G9 s a_s c_s fn_f fa_f fc_f)) ag:=ar.kp
    refine wf (wC (x16) x (fun q=>?_) (fun q=>?_))
    ·
     rw [Br q] at a
     refine XT (Aa (Rk 0 2 [tI 4 x_v10] x i fun be au=>?_))
     refine wf (wp_ret ?_)
     obtain rfl:=XZ a
     obtain rfl:=XZ H
     exact rt (.one (.c (.int .i64 x_v10))) au i rfl
    ·
     rw [Bs q] at a
     refine wp_skip (Aa (Rk 0 2 ((tI 8 (IntKind.i64.wrap (x_v10+1)))::(G9 s a_s c_s fn_f fa_f fc_f)) x i fun bf av=>?_))
     refine wf ?_
     exact XY z ⟨Nat.lt_succ_self _,XY (IntKind.i64.wrap (x_v10+1)) ⟨_,_,rfl,(av.keep [8,7,0,1] (by rfl)).cut 0 (by kernel_rfl),i.cutPl 0 (by kernel_rfl),XU g ay,a⟩⟩
   ·
    rw [p,XV] at a
    refine wp_exit ?_
    obtain rfl:=XZ a
    exact XY () ⟨_,_,rfl,u.kp,d,g,rfl⟩
 ·
  rintro _ bk ⟨af,ab,m,rfl,aw,ad,a7,rfl⟩
  rw [Ex.bind_go] at H
  refine XT (Aa (Rk 0 1 [tI 4 (-1)] aw ad fun bg ax=>?_))
  refine wf (wp_ret ?_)
  obtain rfl:=XZ H
  exact rt (.one (.c (.int .i64 (-1)))) ax ad rfl
set_option maxRecDepth 100000 in
set_option maxHeartbeats 4000000 in
theorem ET (n:Nat) {h:Ac} {w:World} (hh:Dz h w) (s:List Int) {a_s:Option Addr} {c_s:Nat} (hr_s:A5 h a_s c_s s) (f:Int→Option Bool) {fn_f:Fn} {fa_f fc_f:Array Value} (hf_f:Tc h (.func fn_f fa_f fc_f) f) {r:Bool} (H:BJ n s f=some r) :
  Calls Try.prog 93 #[.slice a_s s.length c_s,.func fn_f fa_f fc_f] w (DI (fun h v=>v=.bool r) h w):=by
 refine enter 9 [.c (.slice a_s s.length c_s),.c (.func fn_f fa_f fc_f)] Try.func93 rfl rfl rfl rfl fun t hk=>?_
 have hm:=Am.begin h w hh
 unfold BJ at H
 refine XT (Aa (Rk 0 1 [tS 0 a_s s.length c_s,(1,.one (.c (.func fn_f fa_f fc_f)))] hk hm fun m g=>?_))
 refine wf (XT (Aa (Rk 0 2 [(6,.one (.c (.func fn_f fa_f fc_f))),tS 5 a_s s.length c_s] g hm fun p i=>?_)))
 obtain⟨x7,ex7,H⟩:=Aq H
 refine wl fun K hK=>?_
 refine wc [.c (.slice a_s s.length c_s),.c (.func fn_f fa_f fc_f)] i hm (FE n hm.has s hr_s f hf_f ex7) fun q k u b l a=>?_
 obtain rfl:=b
 refine⟨.one (.c (.int .i64 x7)),rfl,fun j (d:Kn 9 [] [tI 7 x7,(6,.one (.c (.func fn_f fa_f fc_f))),tS 5 a_s s.length c_s] j)=>hK _ _ ?_⟩
 refine Rk 3 2 [tB 4 (decide (x7≥0))] d a fun o e=>?_
 refine wf (wp_ret ?_)
 obtain rfl:=XZ H
 exact rt (.one (.c (.bool (decide (x7≥0))))) e a rfl
set_option maxRecDepth 100000 in
set_option maxHeartbeats 4000000 in
theorem Me (n:Nat) {h:Ac} {w:World} (hh:Dz h w) (l:List Int) {a_l:Option Addr} {c_l:Nat} (hr_l:A5 h a_l c_l l) (right:Int→Option Bool) {fn_right:Fn} {fa_right fc_right:Array Value} (hf_right:Tc h (.func fn_right fa_right fc_right) right) {r:Bool} (H:DE n l right=some r) :
  Calls Try.prog 71 #[.slice a_l l.length c_l,.func fn_right fa_right fc_right] w (DI (fun h v=>v=.bool r) h w):=by
 refine enter 9 [.c (.slice a_l l.length c_l),.c (.func fn_right fa_right fc_right)] Try.func71 rfl rfl rfl rfl fun t hk=>?_
 have hm:=Am.begin h w hh
 unfold DE at H
 refine XT (Aa (wl fun K hK=>?_))
 refine wb (.c (.func fn_right fa_right fc_right)) hk hm fun a aa ac (u:Kn 9 [(a,0)] [tP 3 0 0,tS 0 a_l l.length c_l,(1,.one (.c (.func fn_right fa_right fc_right)))] aa) f=>hK _ _ ?_
 refine Rk 1 1 [tP 3 0 0,tS 0 a_l l.length c_l] u f fun ah x=>?_
 refine wf (XT (Aa (Rk 0 1 [tS 5 a_l l.length c_l,tP 3 0 0] x f fun ai y=>?_)))
 obtain⟨b,j,g,d⟩:=f.settlePlc (i:=0) rfl
 replace hr_l:=hr_l.mono j
 replace hf_right:=hf_right.mono j
 replace d:Am ⟨w,h,AP⟩ b [(a,0)] [⟨[.func fn_right fa_right fc_right],none⟩] [] ac:=d
 have o:BZ b a (right:Int→Option Bool):=BZ.of (e:=[(a,0)]) (cs:=[.func fn_right fa_right fc_right]) (⟨_,_,_,rfl,hf_right⟩:rep b (right:Int→Option Bool) _) rfl g
 have ae:Az b a [.func fn_right fa_right fc_right]:=Az.of (e:=[(a,0)]) (cs:=[.func fn_right fa_right fc_right]) rfl g
 refine Fu 1 #[] #[.pointer (some ⟨a,0,none⟩)] y rfl rfl (rfl) rfl (by decide) (by rfl) (by rfl) (by rfl) (by rfl) fun z (p:Kn 9 [(a,0)] [(6,.one (.c (.func (.func 94) #[] #[.pointer (some ⟨a,0,none⟩)]))),tS 5 a_l l.length c_l,tP 3 0 0] z)=>?_
 obtain⟨x7,ex7,H⟩:=Aq H
 refine wl fun K hK=>?_
 refine wc [.c (.slice a_l l.length c_l),.c (.func (.func 94) #[] #[.pointer (some ⟨a,0,none⟩)])] p d (ET n d.has l hr_l (fun(y0:Int)=>C5 n y0 right) (show Tc b (.func (.func 94) #[] #[.pointer (some ⟨a,0,none⟩)]) (fun(y0:Int)=>C5 n y0 right) from fun h2 w2 hle hh y0 r H=>⟨94,_,_,rfl,fun _ _=>by kernel_rfl,KB n hh y0 right (o.mono hle) H⟩) ex7) fun aj ad ak m af k=>?_
 obtain rfl:=m
 refine⟨.one (.c (.bool x7)),rfl,fun ab (q:Kn 9 [(a,0)] [tB 7 x7,(6,.one (.c (.func (.func 94) #[] #[.pointer (some ⟨a,0,none⟩)]))),tS 5 a_l l.length c_l,tP 3 0 0] ab)=>hK _ _ ?_⟩
 refine Rk 3 2 [tB 4 (!x7)] q k fun ag s=>?_
 refine wf (wp_ret ?_)
 obtain rfl:=XZ H
 exact rt (.one (.c (.bool (!x7)))) s k rfl
set_option maxRecDepth 100000 in
set_option maxHeartbeats 4000000 in
theorem KC (n:Nat) {h:Ac} {w:World} (hh:Dz h w) (b:Bb) {cs_b:List Value} (hx_b:rep h b cs_b) {r:Bool} (H:Ck n b=some r) :
  Calls Try.prog 73 #[.agg cs_b.toArray] w (DI (fun h v=>v=.bool r) h w):=by
 obtain⟨_,_,rfl,rfl,⟨_,_,rfl,rfl,rfl⟩⟩:=hx_b
 refine enter 18 [.agg [.int .i64 b.lo,.int .i64 b.hi,.int .i64 b.turn]] Try.func73 rfl rfl rfl rfl fun t hk=>?_
 have hm:=Am.begin h w hh
 unfold Ck at H
 refine XT (Aa (wl fun K hK=>?_))
 refine wb (.agg [.int .i64 b.lo,.int .i64 b.hi,.int .i64 b.turn]) hk hm fun d ai az (ab:Kn 18 [(d,0)] [tP 1 0 0,tA 0 [.int .i64 b.lo,.int .i64 b.hi,.int .i64 b.turn]] ai) g=>hK _ _ ?_
 refine Rk 1 1 [tP 1 0 0] ab g fun au af=>?_
 refine wf (XT (Aa (Rk 0 4 [tI 6 b.hi,tI 4 b.lo,tP 1 0 0] af g fun av ag=>?_)))
 obtain⟨x7,ex7,H⟩:=Aq H
 refine wl fun K hK=>?_
 refine wc [.c (.int .i64 b.lo),.c (.int .i64 0),.c (.int .i64 b.hi)] ag g (CU n g.has b.lo 0 b.hi ex7) fun aw ak ay p am a=>?_
 obtain rfl:=p
 refine⟨.one (.c (.bool x7)),rfl,fun ah (s:Kn 18 [(d,0)] [tB 7 x7,tI 6 b.hi,tI 4 b.lo,tP 1 0 0] ah)=>hK _ _ ?_⟩
 refine Rk 5 1 [tB 8 x7,tP 1 0 0] s a fun m i=>?_
 rcases Bool.eq_false_or_eq_true (x7) with e | e
 ·
  rw [Br e] at H
  have u:Kn 18 [(d,0)] [tB 8 true,tP 1 0 0] m:=(i.setB 8 true (by rfl) e).kp
  refine Rk 6 5 [tB 13 (decide (b.hi≤2000)),tP 1 0 0] u a fun o j=>?_
  rcases Bool.eq_false_or_eq_true (decide (b.hi≤2000)) with f | f
  ·
   rw [f,XW] at H
   have x:Kn 18 [(d,0)] [tB 13 true,tP 1 0 0] o:=(j.setB 13 true (by rfl) f).kp
   refine Rk 11 2 [tI 15 b.turn,tB 13 true] x a fun ao k=>?_
   obtain⟨x16,ex16,H⟩:=Aq H
   refine AC _ rfl (Aj k (by kernel_rfl)) fun K hK=>?_
   refine wc [.c (.int .i64 b.turn),.c (.int .i64 0),.c (.int .i64 2000)] k a (CU n a.has b.turn 0 2000 ex16) fun ax al a0 q an l=>?_
   obtain rfl:=q
   refine⟨.one (.c (.bool x16)),rfl,fun aj (y:Kn 18 [(d,0)] [tB 16 x16,tI 15 b.turn,tB 13 true] aj)=>hK _ _ ?_⟩
   refine Rk 14 2 [tB 2 x16] y l fun ap z=>?_
   refine wf (wp_ret ?_)
   obtain rfl:=XZ H
   exact rt (.one (.c (.bool x16))) z l rfl
  ·
   rw [f,XV] at H
   have aa:Kn 18 [(d,0)] [tB 13 false,tP 1 0 0] o:=(j.setB 13 false (by rfl) f).kp
   refine Rk 11 5 [tB 2 false] aa a fun aq ac=>?_
   refine wf (wp_ret ?_)
   obtain rfl:=XZ H
   exact rt (.one (.c (.bool false))) ac a rfl
 ·
  rw [Bs e] at H
  have ad:Kn 18 [(d,0)] [tB 8 false,tP 1 0 0] m:=(i.setB 8 false (by rfl) e).kp
  refine Rk 6 10 [tB 2 false] ad a fun ar ae=>?_
  refine wf (wp_ret ?_)
  obtain rfl:=XZ H
  exact rt (.one (.c (.bool false))) ae a rfl
abbrev Og (x:Bb):List SC:=[.int .i64 x.lo,.int .i64 x.hi,.int .i64 x.turn]
set_option maxRecDepth 100000 in
set_option maxHeartbeats 4000000 in
theorem Ht (n:Nat) {h:Ac} {w:World} (hh:Dz h w) (x:Bb) {cs_x:List Value} (hx_x:rep h x cs_x) (q0:Bb→Option Bool) {b_q0:Nat} (hb_q0:BZ h b_q0 q0) {r:Bool} (H:B4 n x q0=some r) :
  Calls Try.prog 96 #[.agg cs_x.toArray,.pointer (some ⟨b_q0,0,none⟩)] w (DI (fun h v=>v=.bool r) h w):=by
 obtain⟨_,_,rfl,rfl,⟨_,_,rfl,rfl,rfl⟩⟩:=hx_x
 obtain⟨_,hx_q0,hc_q0⟩:=id hb_q0
 obtain⟨d,a,b,rfl,l⟩:=hx_q0
 refine E3 (e:=[(b_q0,0)]) 8 [.agg (Og x),.c (.ptr 0 0)] Try.func96 rfl rfl rfl rfl fun t hk=>?_
 have hm:=Am.begin h w hh
 replace hm:=hm.addPlc (o:=0) (cs:=[.func d a b]) (fun j c hj=>by rw [Nat.zero_add]; exact hc_q0 j _ (Al hj)) rfl (by kernel_rfl) (by kernel_rfl)
 replace hm:Am ⟨w,h,AP⟩ h [(b_q0,0)] [⟨[.func d a b],none⟩] [] w:=hm
 unfold B4 at H
 refine XT (Aa (wl fun K hK=>?_))
 refine wb (.agg (Og x)) hk hm fun g z ah (u:Kn 8 [(b_q0,0),(g,0)] [tP 2 1 0,tA 0 (Og x),tP 1 0 0] z) f=>hK _ _ ?_
 refine Rk 1 1 [tP 2 1 0,tP 1 0 0] u f fun ac m=>?_
 refine wf (XT (Aa (Rk 0 2 [tA 5 (Og x),(4,.one (.c (.func d a b)))] m f fun ad p=>?_)))
 obtain⟨x6,ex6,H⟩:=Aq H
 refine wl fun K hK=>?_
 refine E4 (.func d a b) [.agg (Og x)] _ p f rfl rfl (by decide) (by rfl) (by rfl) rfl (l _ _ (Ac.le_refl _) f.has x _ ((Ab Ad (Ab Ad Ad)):rep h x _) _ ex6) fun af aa ag k ab i=>?_
 obtain rfl:=k
 refine⟨.one (.c (.bool x6)),rfl,fun y (q:Kn 8 [(b_q0,0),(g,0)] [tB 6 x6,tA 5 (Og x),(4,.one (.c (.func d a b)))] y)=>hK _ _ ?_⟩
 refine Rk 3 2 [tB 3 (!x6)] q i fun ae s=>?_
 refine wf (wp_ret ?_)
 obtain rfl:=XZ H
 exact rt (.one (.c (.bool (!x6)))) s i rfl
abbrev OT (x14:Bb):List SC:=[.int .i64 x14.lo,.int .i64 x14.hi,.int .i64 x14.turn]
abbrev GA (s:List Bb) (a_s:Option Addr) (c_s:Nat) (fn_f:Fn) (fa_f fc_f:Array Value):TM:=[tI 7 ((s.length:Nat):Int),tS 0 a_s s.length c_s,(1,.one (.c (.func fn_f fa_f fc_f)))]
set_option maxRecDepth 100000 in
set_option maxHeartbeats 4000000 in
theorem DK (n:Nat) {h:Ac} {w:World} (hh:Dz h w) (s:List Bb) {a_s:Option Addr} {c_s:Nat} (hr_s:A5 h a_s c_s s) (f:Bb→Option Bool) {fn_f:Fn} {fa_f fc_f:Array Value} (hf_f:Td h (.func fn_f fa_f fc_f) f) {r:Int} (H:Bi n s f=some r) :
  Calls Try.prog 115 #[.slice a_s s.length c_s,.func fn_f fa_f fc_f] w (DI (fun h v=>v=.int .i64 r) h w):=by
 refine enter 19 [.c (.slice a_s s.length c_s),.c (.func fn_f fa_f fc_f)] Try.func115 rfl rfl rfl rfl fun t hk=>?_
 have hm:=Am.begin h w hh
 unfold Bi at H
 refine XT (Aa (Rk 0 1 [tS 0 a_s s.length c_s,(1,.one (.c (.func fn_f fa_f fc_f)))] hk hm fun a8 al=>?_))
 refine wf (XT (XT (Aa (Rk 0 3 ((tI 8 0)::(GA s a_s c_s fn_f fa_f fc_f)) al hm fun bc ap=>?_))))
 refine wf ?_
 obtain⟨ae,ac,H⟩:=Aq H
 refine Au (fun a' w'=>∃ (af:Unit)(ab:Array Value)(m:Ac),a' = ⟨ab,[]⟩∧Kn 19 [] [] ab∧Am ⟨w,h,AP⟩ m [] [] [] w'∧Ac.le h m∧ae=.go af) ?_ ?_
 ·
  refine wp_block ?_
  refine Ay (fun a3 a' w'=>∃ (x_v10:Int)(aa:Array Value)(g:Ac),a' = ⟨aa,[]⟩∧Kn 19 [] ((tI 8 x_v10)::(GA s a_s c_s fn_f fa_f fc_f)) aa∧Am ⟨w,h,AP⟩ g [] [] [] w'∧Ac.le h g∧A4 a3 s f x_v10=some ae) n ?_ ?_
  ·
   exact XY 0 ⟨_,_,rfl,ap.kp,hm,Ac.le_refl _,ac⟩
  ·
   rintro z _ bi ⟨x_v10,aa,g,rfl,ak,d,i,a⟩
   clear ac
   obtain _ | z:=z
   ·
    rw [A4] at a; cases a
   rw [A4] at a
   replace hr_s:=hr_s.mono i
   replace hf_f:=hf_f.mono i
   refine XT (Aa (Rk 0 1 ((tB 9 (decide (x_v10<((s.length:Nat):Int))))::(tI 8 x_v10)::(GA s a_s c_s fn_f fa_f fc_f)) ak d fun a9 u=>?_))
   refine wf (XT (wC (decide (x_v10<((s.length:Nat):Int))) u (fun p=>?_) (fun p=>?_)))
   ·
    rw [p,XW] at a
    refine wp_skip (XT (wp_block (XT (Aa (Rk 0 2 ((tI 5 x_v10)::(tI 8 x_v10)::(GA s a_s c_s fn_f fa_f fc_f)) u d fun ba am=>?_)))))
    refine wf (XT (Aa (Rk 0 3 ((tI 13 x_v10)::(tS 12 a_s s.length c_s)::(11,.one (.c (.func fn_f fa_f fc_f)))::(tI 5 x_v10)::(tI 8 x_v10)::(GA s a_s c_s fn_f fa_f fc_f)) am d fun bb an=>?_)))
    obtain⟨x14,ex14,a⟩:=Aq a
    obtain⟨az,a0,a2⟩:=Ak ex14
    obtain⟨e,l,a5,ai,a1,aj⟩:=hr_s.get (by decide) a2
    obtain⟨_,_,rfl,rfl,⟨_,_,rfl,rfl,rfl⟩⟩:=a1
    have y:=d.addPlc (b:=e) (o:=l+(x_v10:Int).toNat*3) (cs:=(OT x14)) (fun j c hj=>aj j _ (Al hj)) rfl (by kernel_rfl) (by kernel_rfl)
    refine AT 3 (x_v10) rfl rfl (rfl) rfl (by decide) an (by rfl) (by rfl) (by rfl) ai (by rfl) az a0 (by kernel_rfl) fun a4 (ao:Kn 19 [(e,l+(x_v10:Int).toNat*3)] ((tP 14 0 0)::(tI 13 x_v10)::(tS 12 a_s s.length c_s)::(11,.one (.c (.func fn_f fa_f fc_f)))::(tI 5 x_v10)::(tI 8 x_v10)::(GA s a_s c_s fn_f fa_f fc_f)) a4)=>?_
    refine Rk 4 1 ((tA 15 (OT x14))::(11,.one (.c (.func fn_f fa_f fc_f)))::(tI 5 x_v10)::(tI 8 x_v10)::(GA s a_s c_s fn_f fa_f fc_f)) ao y fun bd aq=>?_
    obtain⟨x16,ex16,a⟩:=Aq a
    refine wl fun K hK=>?_
    refine E4 (.func fn_f fa_f fc_f) [.agg (OT x14)] _ aq y rfl rfl (by decide) (by rfl) (by rfl) rfl (hf_f _ _ (Ac.le_refl _) y.has x14 _ ((Ab Ad (Ab Ad Ad)):rep g x14 _) _ ex16) fun bh a6 bj ah ay k=>?_
    obtain rfl:=ah
    refine⟨.one (.c (.bool x16)),rfl,fun ag (ar:Kn 19 [(e,l+(x_v10:Int).toNat*3)] ((tB 16 x16)::(tA 15 (OT x14))::(11,.one (.c (.func fn_f fa_f fc_f)))::(tI 5 x_v10)::(tI 8 x_v10)::(GA s a_s c_s fn_f fa_f fc_f)) ag)=>hK _ _ ?_⟩
    have x:Kn 19 [(e,l+(x_v10:Int).toNat*3)] ((tB 16 x16)::(tI 5 x_v10)::(tI 8 x_v10)::(GA s a_s c_s fn_f fa_f fc_f)) ag:=ar.kp
    refine wf (wC (x16) x (fun q=>?_) (fun q=>?_))
    ·
     rw [Br q] at a
     refine XT (Aa (Rk 0 2 [tI 4 x_v10] x k fun be au=>?_))
     refine wf (wp_ret ?_)
     obtain rfl:=XZ a
     obtain rfl:=XZ H
     exact rt (.one (.c (.int .i64 x_v10))) au k rfl
    ·
     rw [Bs q] at a
     refine wp_skip (Aa (Rk 0 2 ((tI 8 (IntKind.i64.wrap (x_v10+1)))::(GA s a_s c_s fn_f fa_f fc_f)) x k fun bf av=>?_))
     refine wf ?_
     exact XY z ⟨Nat.lt_succ_self _,XY (IntKind.i64.wrap (x_v10+1)) ⟨_,_,rfl,(av.keep [8,7,0,1] (by rfl)).cut 0 (by kernel_rfl),k.cutPl 0 (by kernel_rfl),XU i ay,a⟩⟩
   ·
    rw [p,XV] at a
    refine wp_exit ?_
    obtain rfl:=XZ a
    exact XY () ⟨_,_,rfl,u.kp,d,i,rfl⟩
 ·
  rintro _ bk ⟨af,ab,m,rfl,aw,ad,a7,rfl⟩
  rw [Ex.bind_go] at H
  refine XT (Aa (Rk 0 1 [tI 4 (-1)] aw ad fun bg ax=>?_))
  refine wf (wp_ret ?_)
  obtain rfl:=XZ H
  exact rt (.one (.c (.int .i64 (-1)))) ax ad rfl
set_option maxRecDepth 100000 in
set_option maxHeartbeats 4000000 in
theorem Dq (n:Nat) {h:Ac} {w:World} (hh:Dz h w) (s:List Bb) {a_s:Option Addr} {c_s:Nat} (hr_s:A5 h a_s c_s s) (f:Bb→Option Bool) {fn_f:Fn} {fa_f fc_f:Array Value} (hf_f:Td h (.func fn_f fa_f fc_f) f) {r:Bool} (H:AY n s f=some r) :
  Calls Try.prog 95 #[.slice a_s s.length c_s,.func fn_f fa_f fc_f] w (DI (fun h v=>v=.bool r) h w):=by
 refine enter 9 [.c (.slice a_s s.length c_s),.c (.func fn_f fa_f fc_f)] Try.func95 rfl rfl rfl rfl fun t hk=>?_
 have hm:=Am.begin h w hh
 unfold AY at H
 refine XT (Aa (Rk 0 1 [tS 0 a_s s.length c_s,(1,.one (.c (.func fn_f fa_f fc_f)))] hk hm fun m g=>?_))
 refine wf (XT (Aa (Rk 0 2 [(6,.one (.c (.func fn_f fa_f fc_f))),tS 5 a_s s.length c_s] g hm fun p i=>?_)))
 obtain⟨x7,ex7,H⟩:=Aq H
 refine wl fun K hK=>?_
 refine wc [.c (.slice a_s s.length c_s),.c (.func fn_f fa_f fc_f)] i hm (DK n hm.has s hr_s f hf_f ex7) fun q k u b l a=>?_
 obtain rfl:=b
 refine⟨.one (.c (.int .i64 x7)),rfl,fun j (d:Kn 9 [] [tI 7 x7,(6,.one (.c (.func fn_f fa_f fc_f))),tS 5 a_s s.length c_s] j)=>hK _ _ ?_⟩
 refine Rk 3 2 [tB 4 (decide (x7≥0))] d a fun o e=>?_
 refine wf (wp_ret ?_)
 obtain rfl:=XZ H
 exact rt (.one (.c (.bool (decide (x7≥0))))) e a rfl
set_option maxRecDepth 100000 in
set_option maxHeartbeats 4000000 in
theorem Iw (n:Nat) {h:Ac} {w:World} (hh:Dz h w) (l:List Bb) {a_l:Option Addr} {c_l:Nat} (hr_l:A5 h a_l c_l l) (right:Bb→Option Bool) {fn_right:Fn} {fa_right fc_right:Array Value} (hf_right:Td h (.func fn_right fa_right fc_right) right) {r:Bool} (H:Cq n l right=some r) :
  Calls Try.prog 72 #[.slice a_l l.length c_l,.func fn_right fa_right fc_right] w (DI (fun h v=>v=.bool r) h w):=by
 refine enter 9 [.c (.slice a_l l.length c_l),.c (.func fn_right fa_right fc_right)] Try.func72 rfl rfl rfl rfl fun t hk=>?_
 have hm:=Am.begin h w hh
 unfold Cq at H
 refine XT (Aa (wl fun K hK=>?_))
 refine wb (.c (.func fn_right fa_right fc_right)) hk hm fun a aa ac (u:Kn 9 [(a,0)] [tP 3 0 0,tS 0 a_l l.length c_l,(1,.one (.c (.func fn_right fa_right fc_right)))] aa) f=>hK _ _ ?_
 refine Rk 1 1 [tP 3 0 0,tS 0 a_l l.length c_l] u f fun ah x=>?_
 refine wf (XT (Aa (Rk 0 1 [tS 5 a_l l.length c_l,tP 3 0 0] x f fun ai y=>?_)))
 obtain⟨b,j,g,d⟩:=f.settlePlc (i:=0) rfl
 replace hr_l:=hr_l.mono j
 replace hf_right:=hf_right.mono j
 replace d:Am ⟨w,h,AP⟩ b [(a,0)] [⟨[.func fn_right fa_right fc_right],none⟩] [] ac:=d
 have o:BZ b a (right:Bb→Option Bool):=BZ.of (e:=[(a,0)]) (cs:=[.func fn_right fa_right fc_right]) (⟨_,_,_,rfl,hf_right⟩:rep b (right:Bb→Option Bool) _) rfl g
 have ae:Az b a [.func fn_right fa_right fc_right]:=Az.of (e:=[(a,0)]) (cs:=[.func fn_right fa_right fc_right]) rfl g
 refine Fu 1 #[] #[.pointer (some ⟨a,0,none⟩)] y rfl rfl (rfl) rfl (by decide) (by rfl) (by rfl) (by rfl) (by rfl) fun z (p:Kn 9 [(a,0)] [(6,.one (.c (.func (.func 96) #[] #[.pointer (some ⟨a,0,none⟩)]))),tS 5 a_l l.length c_l,tP 3 0 0] z)=>?_
 obtain⟨x7,ex7,H⟩:=Aq H
 refine wl fun K hK=>?_
 refine wc [.c (.slice a_l l.length c_l),.c (.func (.func 96) #[] #[.pointer (some ⟨a,0,none⟩)])] p d (Dq n d.has l hr_l (fun(y0:Bb)=>B4 n y0 right) (show Td b (.func (.func 96) #[] #[.pointer (some ⟨a,0,none⟩)]) (fun(y0:Bb)=>B4 n y0 right) from fun h2 w2 hle hh y0 cs0 hy0 r H=>⟨96,_,_,rfl,fun _ _=>by kernel_rfl,Ht n hh y0 hy0 right (o.mono hle) H⟩) ex7) fun aj ad ak m af k=>?_
 obtain rfl:=m
 refine⟨.one (.c (.bool x7)),rfl,fun ab (q:Kn 9 [(a,0)] [tB 7 x7,(6,.one (.c (.func (.func 96) #[] #[.pointer (some ⟨a,0,none⟩)]))),tS 5 a_l l.length c_l,tP 3 0 0] ab)=>hK _ _ ?_⟩
 refine Rk 3 2 [tB 4 (!x7)] q k fun ag s=>?_
 refine wf (wp_ret ?_)
 obtain rfl:=XZ H
 exact rt (.one (.c (.bool (!x7)))) s k rfl
set_option maxRecDepth 100000 in
set_option maxHeartbeats 4000000 in
theorem Ix (n:Nat) {h:Ac} {w:World} (hh:Dz h w) (n_:Int) {r:Bool} (H:BQ n n_=some r) :
  Calls Try.prog 69 #[.int .i64 n_] w (DI (fun h v=>v=.bool r) h w):=by
 refine enter 5 [.c (.int .i64 n_)] Try.func69 rfl rfl rfl rfl fun t hk=>?_
 have hm:=Am.begin h w hh
 unfold BQ at H
 refine XT (Aa (Rk 0 1 [tI 0 n_] hk hm fun l f=>?_))
 refine wf (XT (Aa (Rk 0 1 [tI 3 n_] f hm fun o g=>?_)))
 obtain⟨x4,ex4,H⟩:=Aq H
 refine wl fun K hK=>?_
 refine wc [.c (.int .i64 n_),.c (.int .i64 0),.c (.int .i64 8)] g hm (CU n hm.has n_ 0 8 ex4) fun p j q b k a=>?_
 obtain rfl:=b
 refine⟨.one (.c (.bool x4)),rfl,fun i (d:Kn 5 [] [tB 4 x4,tI 3 n_] i)=>hK _ _ ?_⟩
 refine Rk 2 1 [tB 2 x4] d a fun m e=>?_
 refine wf (wp_ret ?_)
 obtain rfl:=XZ H
 exact rt (.one (.c (.bool x4))) e a rfl
abbrev Nb (x48:Bb):List SC:=[.int .i64 x48.lo,.int .i64 x48.hi,.int .i64 x48.turn]
abbrev Nc (a q s:Nat) (x_v10:Int) (u:Nat):AJ:=[(a,0),(q,s+(x_v10:Int).toNat*3),(u,0)]
abbrev KD (i:Option Addr) (y:Ag) (l:Nat) (d:Option Addr) (e:Nat):List SC:=[.slice i y.room.length l,.slice d y.buses.length e,.int .i64 y.broken]
abbrev G0 (y:Ag) (d:Option Addr) (e f:Nat):TM:=[tI 45 ((y.buses.length:Nat):Int),tS 44 d y.buses.length e,(4,.one (.c (.map (some f))))]
abbrev G1:TM:=[(3,.one (.c (.func (.func 69) #[] #[]))),tP 1 0 0]
set_option maxRecDepth 100000 in
set_option maxHeartbeats 4000000 in
theorem El (n:Nat) {h:Ac} {w:World} (hh:Dz h w) (y:Ag) {cs_y:List Value} (hx_y:rep h y cs_y) {r:Int} (H:Ct n y=some r) :
  Calls Try.prog 46 #[.agg cs_y.toArray] w (DI (fun h v=>v=.int .i64 r) h w):=by
 obtain⟨_,_,rfl,⟨i,l,rfl,z⟩,⟨_,_,rfl,⟨d,e,rfl,p⟩,rfl⟩⟩:=hx_y
 refine enter 58 [.agg (KD i y l d e)] Try.func46 rfl rfl rfl rfl fun t hk=>?_
 have hm:=Am.begin h w hh
 unfold Ct at H
 refine XT (Aa (wl fun K hK=>?_))
 refine wb (.agg (KD i y l d e)) hk hm fun a dx e4 (cg:Kn 58 [(a,0)] [tP 1 0 0,tA 0 (KD i y l d e)] dx) ac=>hK _ _ ?_
 refine Rk 1 1 [tP 1 0 0] cg ac fun d8 cl=>?_
 refine wf (XT (Aa (Rk 0 1 G1 cl ac fun ea cp=>?_)))
 refine wf (XT (wp_block (XT ?_)))
 obtain⟨bz,an,H⟩:=Aq H
 refine Au (fun a' w'=>∃ (be:Array Value)(aq:Ac),a' = ⟨be,[]⟩∧Kn 58 [(a,0)] [(3,.one (.c (.func (.func 69) #[] #[]))),tP 1 0 0,tB 7 bz] be∧Am ⟨w,h,AP⟩ aq [(a,0)] [⟨KD i y l d e,some 33⟩] [] w'∧Ac.le h aq) ?_ ?_
 ·
  refine Aa (Rk 0 5 ((tB 12 (decide (((y.room.length:Nat):Int)>3)))::G1) cp ac fun b3 bj=>?_)
  rcases Bool.eq_false_or_eq_true (decide (((y.room.length:Nat):Int)>3)) with ah | ah
  ·
   rw [ah,XW] at an
   have c2:Kn 58 [(a,0)] ((tB 12 true)::G1) b3:=(bj.setB 12 true (by rfl) ah).kp
   refine Rk 5 6 ((tB 7 true)::G1) c2 ac fun eg c3=>?_
   refine wf ?_
   obtain rfl:=XZ an
   exact XY _ ⟨_,rfl,c3.kp,ac,Ac.le_refl _⟩
  ·
   rw [ah,XV] at an
   have c4:Kn 58 [(a,0)] ((tB 12 false)::G1) b3:=(bj.setB 12 false (by rfl) ah).kp
   refine Rk 5 6 ((tB 7 (decide (((y.buses.length:Nat):Int)>8)))::G1) c4 ac fun eh c5=>?_
   refine wf ?_
   obtain rfl:=XZ an
   exact XY _ ⟨_,rfl,c5.kp,ac,Ac.le_refl _⟩
 ·
  rintro _ e0 ⟨be,aq,rfl,a3,aa,bq⟩
  replace z:=z.mono bq
  replace p:=p.mono bq
  refine wC (bz) a3 (fun az=>?_) (fun az=>?_)
  ·
   rw [Br az] at H
   refine XT (Aa (Rk 0 1 [tI 2 3] a3 aa fun ei c6=>?_))
   refine wf (wp_ret ?_)
   obtain rfl:=XZ H
   exact rt (.one (.c (.int .i64 3))) c6 aa rfl
  ·
   rw [Bs az] at H
   refine XT ?_
   obtain⟨ba,g,H⟩:=Aq H
   refine Au (fun a' w'=>∃ (bf:Array Value)(ab:Ac),a' = ⟨bf,[]⟩∧Kn 58 [(a,0)] [tP 1 0 0,tB 18 ba] bf∧Am ⟨w,h,AP⟩ ab [(a,0)] [⟨KD i y l d e,some 33⟩] [] w'∧Ac.le aq ab) ?_ ?_
   ·
    refine Aa (Rk 0 5 ((tB 23 (((y.room.length:Nat):Int) == 0))::G1) a3 aa fun b4 bk=>?_)
    rcases Bool.eq_false_or_eq_true ((((y.room.length:Nat):Int) == 0)) with ai | ai
    ·
     rw [ai,XW] at g
     have c7:Kn 58 [(a,0)] ((tB 23 true)::G1) b4:=(bk.setB 23 true (by rfl) ai).kp
     refine Rk 5 19 [tB 18 true,tP 1 0 0] c7 aa fun ej c8=>?_
     refine wf ?_
     obtain rfl:=XZ g
     exact XY _ ⟨_,rfl,c8.kp,aa,Ac.le_refl _⟩
    ·
     rw [ai,XV] at g
     have c9:Kn 58 [(a,0)] ((tB 23 false)::G1) b4:=(bk.setB 23 false (by rfl) ai).kp
     refine Rk 5 2 ((tI 25 y.broken)::(tB 23 false)::G1) c9 aa fun ek bl=>?_
     obtain⟨x26,ex26,g⟩:=Aq g
     refine AC _ rfl (Aj bl (by kernel_rfl)) fun K hK=>?_
     refine wc [.c (.int .i64 y.broken),.c (.int .i64 0),.c (.int .i64 2)] bl aa (CU n aa.has y.broken 0 2 ex26) fun et cc e1 b9 al ae=>?_
     replace z:=z.mono al
     replace p:=p.mono al
     obtain rfl:=b9
     refine⟨.one (.c (.bool x26)),rfl,fun dv (da:Kn 58 [(a,0)] ((tB 26 x26)::(tI 25 y.broken)::(tB 23 false)::G1) dv)=>hK _ _ ?_⟩
     refine Rk 8 3 ((tB 29 (!x26))::G1) da ae fun b5 bm=>?_
     rcases Bool.eq_false_or_eq_true ((!x26)) with aj | aj
     ·
      rw [aj,XW] at g
      have db:Kn 58 [(a,0)] ((tB 29 true)::G1) b5:=(bm.setB 29 true (by rfl) aj).kp
      refine Rk 11 13 [tB 18 true,tP 1 0 0] db ae fun el dc=>?_
      refine wf ?_
      obtain rfl:=XZ g
      exact XY _ ⟨_,rfl,dc.kp,ae,al⟩
     ·
      rw [aj,XV] at g
      have dd:Kn 58 [(a,0)] ((tB 29 false)::G1) b5:=(bm.setB 29 false (by rfl) aj).kp
      refine Rk 11 3 [(32,.one (.c (.func (.func 69) #[] #[]))),tS 31 i y.room.length l,tB 29 false,tP 1 0 0] dd ae fun em bn=>?_
      obtain⟨x33,ex33,g⟩:=Aq g
      refine AC _ rfl (Aj bn (by kernel_rfl)) fun K hK=>?_
      refine wc [.c (.slice i y.room.length l),.c (.func (.func 69) #[] #[])] bn ae (Me n ae.has y.room z (fun(y0:Int)=>BQ n y0) (show Tc cc (.func (.func 69) #[] #[]) (fun(y0:Int)=>BQ n y0) from fun h2 w2 hle hh y0 r H=>⟨69,_,_,rfl,fun _ _=>by kernel_rfl,Ix n hh y0 H⟩) ex33) fun eu cd e2 ca ar af=>?_
      replace z:=z.mono ar
      replace p:=p.mono ar
      obtain rfl:=ca
      refine⟨.one (.c (.bool x33)),rfl,fun dw (de:Kn 58 [(a,0)] [tB 33 x33,(32,.one (.c (.func (.func 69) #[] #[]))),tS 31 i y.room.length l,tB 29 false,tP 1 0 0] dw)=>hK _ _ ?_⟩
      refine Rk 15 3 [tB 36 (!x33),tP 1 0 0] de af fun b6 bo=>?_
      rcases Bool.eq_false_or_eq_true ((!x33)) with ak | ak
      ·
       rw [ak,XW] at g
       have df:Kn 58 [(a,0)] [tB 36 true,tP 1 0 0] b6:=(bo.setB 36 true (by rfl) ak).kp
       refine Rk 18 6 [tB 18 true,tP 1 0 0] df af fun en dg=>?_
       refine wf ?_
       obtain rfl:=XZ g
       exact XY _ ⟨_,rfl,dg.kp,af,XU al ar⟩
      ·
       rw [ak,XV] at g
       have dh:Kn 58 [(a,0)] [tB 36 false,tP 1 0 0] b6:=(bo.setB 36 false (by rfl) ak).kp
       refine Rk 18 2 [tS 38 d y.buses.length e,tB 36 false,tP 1 0 0] dh af fun eo bp=>?_
       obtain⟨x39,ex39,g⟩:=Aq g
       refine AC _ rfl (Aj bp (by kernel_rfl)) fun K hK=>?_
       refine wc [.c (.slice d y.buses.length e),.c (.func (.func 73) #[] #[])] bp af (Iw n af.has y.buses p (fun(y0:Bb)=>Ck n y0) (show Td cd (.func (.func 73) #[] #[]) (fun(y0:Bb)=>Ck n y0) from fun h2 w2 hle hh y0 cs0 hy0 r H=>⟨73,_,_,rfl,fun _ _=>by kernel_rfl,KC n hh y0 hy0 H⟩) ex39) fun ev d4 e3 cb dl bv=>?_
       obtain rfl:=cb
       refine⟨.one (.c (.bool x39)),rfl,fun dy (di:Kn 58 [(a,0)] [tB 39 x39,tS 38 d y.buses.length e,tB 36 false,tP 1 0 0] dy)=>hK _ _ ?_⟩
       refine Rk 21 3 [tB 18 (!x39),tP 1 0 0] di bv fun ep dj=>?_
       refine wf ?_
       obtain rfl:=XZ g
       exact XY _ ⟨_,rfl,dj.kp,bv,XU al (XU ar dl)⟩
   ·
    rintro _ d0 ⟨bf,ab,rfl,a4,a8,br⟩
    replace z:=z.mono br
    replace p:=p.mono br
    refine wC (ba) a4 (fun a0=>?_) (fun a0=>?_)
    ·
     rw [Br a0] at H
     refine XT (Aa (Rk 0 1 [tI 2 1] a4 a8 fun er dk=>?_))
     refine wf (wp_ret ?_)
     obtain rfl:=XZ H
     exact rt (.one (.c (.int .i64 1))) dk a8 rfl
    ·
     rw [Bs a0] at H
     refine wp_skip (XT (Aa (wl fun K hK=>?_)))
     refine JB a4 a8 rfl rfl (by decide) fun f dt d3 (ch:Kn 58 [(a,0)] [(42,.one (.c (.map (some f)))),tP 1 0 0,tB 18 ba] dt) (a6:Am (Fr.put ⟨w,h,AP⟩ f (some (.map #[] 0))) ab [(a,0)] [⟨KD i y l d e,some 33⟩] [] (World.alloc d0 (.map #[] 0)))=>?_
     have b8:Ch ab (#[]:Array MapEntry).toList 0 ([]:List (Int×Bool)):=Ch.nil
     refine hK _ _ ?_
     refine Rk 1 1 [(4,.one (.c (.map (some f)))),tP 1 0 0] ch a6 fun d6 ci=>?_
     refine wf (XT (XT (Aa (Rk 0 4 ((tI 46 0)::(G0 y d e f)) ci a6 fun d7 cj=>?_))))
     refine wf ?_
     obtain⟨bx,bh,H⟩:=Aq H
     refine Au (fun a' w'=>∃ (bb:List (Int×Bool))(av:Array MapEntry)(au:Nat)(bc:Array Value)(ap:Ac),a' = ⟨bc,[]⟩∧Kn 58 [(a,0)] [] bc∧Am (Fr.put ⟨w,h,AP⟩ f (some (.map av au))) ap [(a,0)] [⟨KD i y l d e,some 33⟩] [] w'∧Ac.le ab ap∧Ch ap av.toList au bb∧bx=.go bb) ?_ ?_
     ·
      refine wp_block ?_
      refine Ay (fun ds a' w'=>∃ (x_v10:Int)(x_v11:List (Int×Bool))(ao:Array MapEntry)(am:Nat)(bd:Array Value)(ag:Ac),a' = ⟨bd,[]⟩∧Kn 58 [(a,0)] ((tI 46 x_v10)::(G0 y d e f)) bd∧Am (Fr.put ⟨w,h,AP⟩ f (some (.map ao am))) ag [(a,0)] [⟨KD i y l d e,some 33⟩] [] w'∧Ac.le ab ag∧Ch ag ao.toList am x_v11∧BA ds y x_v10 x_v11=some bx) n ?_ ?_
      ·
       exact XY 0 ⟨([]:List (Int×Bool)),#[],0,_,_,rfl,cj.kp,a6,Ac.le_refl _,b8,bh⟩
      ·
       rintro a9 _ ew ⟨x_v10,x_v11,ao,am,bd,ag,rfl,ck,a7,a5,aw,m⟩
       clear bh
       obtain _ | a9:=a9
       ·
        rw [BA] at m; cases m
       rw [BA] at m
       replace p:=p.mono a5
       refine XT (Aa (Rk 0 1 ((tB 47 (decide (x_v10<((y.buses.length:Nat):Int))))::(tI 46 x_v10)::(G0 y d e f)) ck a7 fun d9 a1=>?_))
       refine wf (XT (wC (decide (x_v10<((y.buses.length:Nat):Int))) a1 (fun ax=>?_) (fun ax=>?_)))
       ·
        rw [ax,XW] at m
        refine wp_skip (XT (wp_block (XT (Aa ?_))))
        obtain⟨x48,ex48,m⟩:=Aq m
        obtain⟨dn,dp,dr⟩:=Ak ex48
        obtain⟨q,s,d1,ce,dq,cf⟩:=p.get (by decide) dr
        obtain⟨_,_,rfl,rfl,⟨_,_,rfl,rfl,rfl⟩⟩:=dq
        have bs:=a7.addPlc (b:=q) (o:=s+(x_v10:Int).toNat*3) (cs:=(Nb x48)) (fun j c hj=>cf j _ (Al hj)) rfl (by kernel_rfl) (by kernel_rfl)
        refine AT 0 (x_v10) rfl rfl (rfl) rfl (by decide) a1 (by rfl) (by rfl) (by rfl) ce (by rfl) dn dp (by kernel_rfl) fun du (cm:Kn 58 [(a,0),(q,s+(x_v10:Int).toNat*3)] ((tP 48 1 0)::(tB 47 (decide (x_v10<((y.buses.length:Nat):Int))))::(tI 46 x_v10)::(G0 y d e f)) du)=>?_
        refine Rk 1 1 ((tA 49 (Nb x48))::(tI 46 x_v10)::(G0 y d e f)) cm bs fun eb cn=>?_
        refine wl fun K hK=>?_
        refine wa [.int .i64 0,.int .i64 0,.int .i64 0] cn bs fun u b0 ex (co:Kn 58 (Nc a q s x_v10 u) ((tP 6 2 0)::(tA 49 (Nb x48))::(tI 46 x_v10)::(G0 y d e f)) b0) dm=>hK _ _ ?_
        refine wl fun K hK=>?_
        refine D8 2 0 (.agg (Nb x48)) (Nb x48) co dm fun ey cq ad=>hK _ _ ?_
        have cr:Kn 58 (Nc a q s x_v10 u) ((tP 6 2 0)::(tI 46 x_v10)::(G0 y d e f)) b0:=cq.kp
        refine wf (XT (XT (Aa (Rk 0 3 ((tI 52 x48.turn)::(50,.one (.c (.map (some f))))::(tP 6 2 0)::(tI 46 x_v10)::(G0 y d e f)) cr ad fun ec ct=>?_))))
        obtain⟨x53,ex53,m⟩:=Aq m
        refine wl fun K hK=>?_
        refine GP (KT:=3) (E:=4) (k:=(x48.turn:Int)) (false:Bool) (.c (.int .i64 x48.turn)) ct rfl rfl (by decide) (by rfl) (by rfl) (by kernel_rfl) (KL.int (by kernel_rfl)) (ad.ext (Fr.put_X _ _ _)) aw rfl (by kernel_rfl) rfl fun es bw=>?_
        rw [XZ ex53] at bw ⊢
        obtain rfl:=bw
        refine⟨.one (.c (.bool x53.1)),rfl,fun b1 (cu:Kn 58 (Nc a q s x_v10 u) ((tB 53 x53.1)::(tI 52 x48.turn)::(50,.one (.c (.map (some f))))::(tP 6 2 0)::(tI 46 x_v10)::(G0 y d e f)) b1)=>hK _ _ ?_⟩
        have a2:Kn 58 (Nc a q s x_v10 u) ((tB 53 x53.1)::(tP 6 2 0)::(tI 46 x_v10)::(G0 y d e f)) b1:=cu.kp
        refine wf (wC (x53.1) a2 (fun ay=>?_) (fun ay=>?_))
        ·
         rw [Br ay] at m
         refine XT (Aa (Rk 0 1 [tI 2 1] a2 ad fun ed cv=>?_))
         refine wf (wp_ret ?_)
         obtain rfl:=XZ m
         obtain rfl:=XZ H
         exact rt (.one (.c (.int .i64 1))) cv ad rfl
        ·
         rw [Bs ay] at m
         refine wp_skip (Aa (Rk 0 3 ((tI 56 x48.turn)::(54,.one (.c (.map (some f))))::(tI 46 x_v10)::(G0 y d e f)) a2 ad fun b2 cw=>?_))
         refine wl fun K hK=>?_
         refine JE (KT:=3) (E:=4) (k:=(x48.turn:Int)) (x:=(true:Bool)) (.c (.int .i64 x48.turn)) (.c (.bool true)) cw ad rfl rfl (by rfl) (by rfl) (by rfl) (by kernel_rfl) (KL.int (by kernel_rfl)) aw rfl rfl fun bi bg dz b7 (cx:Kn 58 (Nc a q s x_v10 u) ((tI 56 x48.turn)::(54,.one (.c (.map (some f))))::(tI 46 x_v10)::(G0 y d e f)) b2) (bt:Am (Fr.put ⟨w,h,AP⟩ f (some (.map bi bg))) ag (Nc a q s x_v10 u) [⟨KD i y l d e,some 33⟩,⟨Nb x48,none⟩,⟨Nb x48,some 70⟩] [] dz)=>hK _ _ ?_
         have cy:Kn 58 (Nc a q s x_v10 u) ((tI 46 x_v10)::(G0 y d e f)) b2:=cx.kp
         refine wf (Aa (Rk 0 2 ((tI 46 (IntKind.i64.wrap (x_v10+1)))::(G0 y d e f)) cy bt fun ee cz=>?_))
         refine wf ?_
         exact XY a9 ⟨Nat.lt_succ_self _,XY (IntKind.i64.wrap (x_v10+1)) ⟨Gn x_v11 x48.turn true,bi,bg,_,_,rfl,(cz.keep [46,45,44,4] (by rfl)).cut 1 (by kernel_rfl),bt.cutPl 1 (by kernel_rfl),a5,b7,m⟩⟩
       ·
        rw [ax,XV] at m
        refine wp_exit ?_
        obtain rfl:=XZ m
        exact XY x_v11 ⟨ao,am,_,_,rfl,a1.kp,a7,a5,aw,rfl⟩
     ·
      rintro _ ez ⟨bb,av,au,bc,ap,rfl,c0,bu,d5,d2,rfl⟩
      rw [Ex.bind_go] at H
      refine XT (Aa (Rk 0 1 [tI 2 0] c0 bu fun ef c1=>?_))
      refine wf (wp_ret ?_)
      obtain rfl:=XZ H
      exact rt (.one (.c (.int .i64 0))) c1 bu rfl
set_option maxRecDepth 100000 in
set_option maxHeartbeats 4000000 in
theorem CN (n:Nat) {h:Ac} {w:World} (hh:Dz h w) (s:List Int) {a_s:Option Addr} {c_s:Nat} (hr_s:A5 h a_s c_s s) {r:List Int} (H:Bw n s=some r) :
  Calls Try.prog 48 #[.slice a_s s.length c_s] w (S6 (fun h v rs=>∃ (j:Option Addr)(k:Nat)(p:List Value),v=.slice j r.length k∧rs=[⟨j,r.length,k,3,1,p,0⟩]∧Ah h r p) h w):=by
 refine enter 8 [.c (.slice a_s s.length c_s)] Try.func48 rfl rfl rfl rfl fun t hk=>?_
 have hm:=Am.begin h w hh
 unfold Bw at H
 refine XT (Aa (Rk 0 1 [tS 0 a_s s.length c_s] hk hm fun ak ab=>?_))
 refine wf (XT (XT (Aa (Rk 0 2 [tB 4 a_s.isNone,tS 0 a_s s.length c_s] ab hm fun am f=>?_))))
 refine wf (wC (a_s.isNone) f (fun l=>?_) (fun l=>?_))
 ·
  obtain rfl:=A5.isNil hr_s (by decide) l
  replace H:some ([]:List Int)=some r:=by simpa [Mb] using H
  refine XT (Aa (Rk 0 1 [tS 2 none 0 0] f hm fun ao ae=>?_))
  refine wf (wp_ret ?_)
  have ag:Am ⟨w,h,AP⟩ h [] [] [⟨none,0,0,3,1,([]:List Value),0⟩] w:=hm.nilRow 3 1
  obtain rfl:=XZ H
  exact Mp (.one (.c (.slice none 0 0))) [0] ae ag (by kernel_rfl) (by kernel_rfl) (by kernel_rfl) ⟨_,_,_,rfl,rfl,Ah.nil⟩
 ·
  refine wp_skip (XT (Aa (wl fun K hK=>?_)))
  refine wS 3 1 [] f hm fun d ai ap (z:Kn 8 [] [tS 5 d 0 0,tB 4 a_s.isNone,tS 0 a_s s.length c_s] ai) g=>?_
  have u:Ah h ([]:List Int) ([]:List Value):=Ah.nil
  refine hK _ _ ?_
  refine Rk 1 1 [tS 6 a_s s.length c_s,tS 5 d 0 0] z g fun al aa=>?_
  obtain⟨o,a,ah,_⟩:=id hr_s
  obtain⟨x7,ex7,H⟩:=Aq H
  obtain⟨i,af⟩:=Ce ex7
  refine wl fun K hK=>?_
  refine BG 0 8 s.length _ (x7.length) _ o aa g rfl rfl (by decide) rfl (by rfl) (by kernel_rfl) (by rfl) (by rfl) (Ah.len a) (ah.cell g.has a.one) a.one (by rw [i]; simp <;> omega) (by rw [i]; exact af) (by decide) fun b e q aj aq y (ac:Kn 8 [] [tS 7 b x7.length e,tS 6 a_s s.length c_s,tS 5 d 0 0] aj) m=>?_
  have x:Ah h x7 (([]:List Value)++o):=by rw [i]; exact Ah.append u a
  obtain rfl:q=0:=Nat.le_zero.1 y
  refine hK _ _ ?_
  refine Rk 3 1 [tS 2 b x7.length e] ac m fun an ad=>?_
  refine wf (wp_ret ?_)
  obtain rfl:=XZ H
  exact Mp (.one (.c (.slice b x7.length e))) [0] ad m (by kernel_rfl) (by kernel_rfl) (by kernel_rfl) ⟨_,_,_,rfl,rfl,x⟩
end Go.Proofs.Ythcbemnflgjadaa
