/- Each call computes its plain function. -/
import Derived.Test.YthcbemnflgjadaaGreatProg
import Derived.Test.YthcbemnflgjadaaGreatzbP0
set_option linter.all false
namespace Go.Proofs.YthcbemnflgjadaaGreat
open Go Go.RowKit
open Rep (rep)
open KRep (kv)
open VRep (rv)
set_option maxRecDepth 100000 in
set_option maxHeartbeats 4000000 in
theorem Rd (n:Nat) {h:Ac} {w:World} (hh:Db h w) (y:Ag) {cs_y:List Value} (hx_y:rep h y cs_y) {r:Bool} (H:IA n y=some r) :
  Calls Tryz.prog 22 #[.agg cs_y.toArray] w (Dd (fun h v=>v=.bool r) h w):=by
 obtain⟨_,_,rfl,⟨d,g,rfl,x⟩,⟨_,_,rfl,⟨e,i,rfl,z⟩,rfl⟩⟩:=hx_y
 refine enter 13 [.agg [.slice d y.room.length g,.slice e y.buses.length i,.int .i64 y.broken]] Tryz.func22 rfl rfl rfl rfl fun t hk=>?_
 have hm:=Aj.begin h w hh
 unfold IA at H
 refine XT (Aa (wl fun K hK=>?_))
 refine wb (.agg [.slice d y.room.length g,.slice e y.buses.length i,.int .i64 y.broken]) hk hm fun f u ad (l:Kn 13 [(f,0)] [tP 1 0 0,tA 0 [.slice d y.room.length g,.slice e y.buses.length i,.int .i64 y.broken]] u) a=>hK _ _ ?_
 refine Rk 1 1 [tP 1 0 0] l a fun aa m=>?_
 refine wf (XT (Aa (Rk 0 5 [tB 7 (decide (((y.room.length:Nat):Int)≤6)),tP 1 0 0] m a fun k j=>?_)))
 rcases Bool.eq_false_or_eq_true (decide (((y.room.length:Nat):Int)≤6)) with b | b
 ·
  rw [b,XW] at H
  have o:Kn 13 [(f,0)] [tB 7 true,tP 1 0 0] k:=(j.setB 7 true (by rfl) b).kp
  refine Rk 5 6 [tB 2 (decide (((y.buses.length:Nat):Int)≤12))] o a fun ab p=>?_
  refine wf (wp_ret ?_)
  obtain rfl:=XZ H
  exact rt (.one (.c (.bool (decide (((y.buses.length:Nat):Int)≤12))))) p a rfl
 ·
  rw [b,XV] at H
  have q:Kn 13 [(f,0)] [tB 7 false,tP 1 0 0] k:=(j.setB 7 false (by rfl) b).kp
  refine Rk 5 6 [tB 2 false] q a fun ac s=>?_
  refine wf (wp_ret ?_)
  obtain rfl:=XZ H
  exact rt (.one (.c (.bool false))) s a rfl
set_option maxRecDepth 100000 in
set_option maxHeartbeats 4000000 in
theorem CY (n:Nat) {h:Ac} {w:World} (hh:Db h w) (n_:Int) (low:Int) (high:Int) {r:Bool} (H:Cu n n_ low high=some r) :
  Calls Tryz.prog 47 #[.int .i64 n_,.int .i64 low,.int .i64 high] w (Dd (fun h v=>v=.bool r) h w):=by
 refine enter 15 [.c (.int .i64 n_),.c (.int .i64 low),.c (.int .i64 high)] Tryz.func47 rfl rfl rfl rfl fun t hk=>?_
 have hm:=Aj.begin h w hh
 unfold Cu at H
 refine XT (Aa (Rk 0 1 [tI 0 n_,tI 1 low,tI 2 high] hk hm fun k f=>?_))
 refine wf (XT (Aa (Rk 0 4 [tB 10 (decide (low≤n_)),tI 0 n_,tI 2 high] f hm fun d b=>?_)))
 rcases Bool.eq_false_or_eq_true (decide (low≤n_)) with a | a
 ·
  rw [a,XW] at H
  have g:Kn 15 [] [tB 10 true,tI 0 n_,tI 2 high] d:=(b.setB 10 true (by rfl) a).kp
  refine Rk 4 5 [tB 6 (decide (n_≤high))] g hm fun m i=>?_
  refine wf (wp_ret ?_)
  obtain rfl:=XZ H
  exact rt (.one (.c (.bool (decide (n_≤high))))) i hm rfl
 ·
  rw [a,XV] at H
  have j:Kn 15 [] [tB 10 false,tI 0 n_,tI 2 high] d:=(b.setB 10 false (by rfl) a).kp
  refine Rk 4 5 [tB 6 false] j hm fun l e=>?_
  refine wf (wp_ret ?_)
  obtain rfl:=XZ H
  exact rt (.one (.c (.bool false))) e hm rfl
set_option maxRecDepth 100000 in
set_option maxHeartbeats 4000000 in
theorem Lk (n:Nat) {h:Ac} {w:World} (hh:Db h w) (x:Int) (q0:Int→Option Bool) {b_q0:Nat} (hb_q0:BW h b_q0 q0) {r:Bool} (H:C2 n x q0=some r) :
  Calls Tryz.prog 66 #[.int .i64 x,.pointer (some ⟨b_q0,0,none⟩)] w (Dd (fun h v=>v=.bool r) h w):=by
 obtain⟨_,hx_q0,hc_q0⟩:=id hb_q0
 obtain⟨d,a,b,rfl,i⟩:=hx_q0
 refine E7 (e:=[(b_q0,0)]) 8 [.c (.int .i64 x),.c (.ptr 0 0)] Tryz.func66 rfl rfl rfl rfl fun t hk=>?_
 have hm:=Aj.begin h w hh
 replace hm:=hm.addPlc (o:=0) (cs:=[.func d a b]) (fun j c hj=>by rw [Nat.zero_add]; exact hc_q0 j _ (Am hj)) rfl (by kernel_rfl) (by kernel_rfl)
 replace hm:Aj ⟨w,h,A9⟩ h [(b_q0,0)] [⟨[.func d a b],none⟩] [] w:=hm
 unfold C2 at H
 refine XT (Aa (Rk 0 1 [tI 0 x,tP 1 0 0] hk hm fun z m=>?_))
 refine wf (XT (Aa (Rk 0 2 [tI 5 x,(4,.one (.c (.func d a b)))] m hm fun aa p=>?_)))
 obtain⟨x6,ex6,H⟩:=Ap H
 refine wl fun K hK=>?_
 refine E8 (.func d a b) [.c (.int .i64 x)] _ p hm rfl rfl (by decide) (by rfl) (by rfl) rfl (i _ _ (Ac.le_refl _) hm.has x _ ex6) fun ab s ac g u f=>?_
 obtain rfl:=g
 refine⟨.one (.c (.bool x6)),rfl,fun q (k:Kn 8 [(b_q0,0)] [tB 6 x6,tI 5 x,(4,.one (.c (.func d a b)))] q)=>hK _ _ ?_⟩
 refine Rk 3 2 [tB 3 (!x6)] k f fun y l=>?_
 refine wf (wp_ret ?_)
 obtain rfl:=XZ H
 exact rt (.one (.c (.bool (!x6)))) l f rfl
abbrev JJ (s:List Int) (a_s:Option Addr) (c_s:Nat) (fn_f:Fn) (fa_f fc_f:Array Value):TM:=[tI 7 ((s.length:Nat):Int),tS 0 a_s s.length c_s,(1,.one (.c (.func fn_f fa_f fc_f)))]
set_option maxRecDepth 100000 in
set_option maxHeartbeats 4000000 in
theorem FR (n:Nat) {h:Ac} {w:World} (hh:Db h w) (s:List Int) {a_s:Option Addr} {c_s:Nat} (hr_s:At h a_s c_s s) (f:Int→Option Bool) {fn_f:Fn} {fa_f fc_f:Array Value} (hf_f:Ut h (.func fn_f fa_f fc_f) f) {r:Int} (H:Cb n s f=some r) :
  Calls Tryz.prog 93 #[.slice a_s s.length c_s,.func fn_f fa_f fc_f] w (Dd (fun h v=>v=.int .i64 r) h w):=by
 refine enter 19 [.c (.slice a_s s.length c_s),.c (.func fn_f fa_f fc_f)] Tryz.func93 rfl rfl rfl rfl fun t hk=>?_
 have hm:=Aj.begin h w hh
 unfold Cb at H
 refine XT (Aa (Rk 0 1 [tS 0 a_s s.length c_s,(1,.one (.c (.func fn_f fa_f fc_f)))] hk hm fun a8 al=>?_))
 refine wf (XT (XT (Aa (Rk 0 3 ((tI 8 0)::(JJ s a_s c_s fn_f fa_f fc_f)) al hm fun bc ap=>?_))))
 refine wf ?_
 obtain⟨ae,ac,H⟩:=Ap H
 refine Aq (fun a' w'=>∃ (af:Unit)(ab:Array Value)(m:Ac),a' = ⟨ab,[]⟩∧Kn 19 [] [] ab∧Aj ⟨w,h,A9⟩ m [] [] [] w'∧Ac.le h m∧ae=.go af) ?_ ?_
 ·
  refine wp_block ?_
  refine Au (fun a3 a' w'=>∃ (x_v10:Int)(aa:Array Value)(l:Ac),a' = ⟨aa,[]⟩∧Kn 19 [] ((tI 8 x_v10)::(JJ s a_s c_s fn_f fa_f fc_f)) aa∧Aj ⟨w,h,A9⟩ l [] [] [] w'∧Ac.le h l∧AK a3 s f x_v10=some ae) n ?_ ?_
  ·
   exact XY 0 ⟨_,_,rfl,ap.kp,hm,Ac.le_refl _,ac⟩
  ·
   rintro z _ bi ⟨x_v10,aa,l,rfl,ak,d,g,a⟩
   clear ac
   obtain _ | z:=z
   ·
    rw [AK] at a; cases a
   rw [AK] at a
   replace hr_s:=hr_s.mono g
   replace hf_f:=hf_f.mono g
   refine XT (Aa (Rk 0 1 ((tB 9 (decide (x_v10<((s.length:Nat):Int))))::(tI 8 x_v10)::(JJ s a_s c_s fn_f fa_f fc_f)) ak d fun a9 u=>?_))
   refine wf (XT (wC (decide (x_v10<((s.length:Nat):Int))) u (fun p=>?_) (fun p=>?_)))
   ·
    rw [p,XW] at a
    refine wp_skip (XT (wp_block (XT (Aa (Rk 0 2 ((tI 5 x_v10)::(tI 8 x_v10)::(JJ s a_s c_s fn_f fa_f fc_f)) u d fun ba am=>?_)))))
    refine wf (XT (Aa (Rk 0 3 ((tI 13 x_v10)::(tS 12 a_s s.length c_s)::(11,.one (.c (.func fn_f fa_f fc_f)))::(tI 5 x_v10)::(tI 8 x_v10)::(JJ s a_s c_s fn_f fa_f fc_f)) am d fun bb an=>?_)))
    obtain⟨x14,ex14,a⟩:=Ap a
    obtain⟨az,a0,a2⟩:=Ak ex14
    obtain⟨e,k,a5,ai,a1,aj⟩:=hr_s.get (by decide) a2
    obtain rfl:=a1
    have y:=d.addPlc (b:=e) (o:=k+(x_v10:Int).toNat*1) (cs:=[.int .i64 x14]) (fun j c hj=>aj j _ (Am hj)) rfl (by kernel_rfl) (by kernel_rfl)
    refine AC 3 (x_v10) rfl rfl (rfl) rfl (by decide) an (by rfl) (by rfl) (by rfl) ai (by rfl) az a0 (by kernel_rfl) fun a4 (ao:Kn 19 [(e,k+(x_v10:Int).toNat*1)] ((tP 14 0 0)::(tI 13 x_v10)::(tS 12 a_s s.length c_s)::(11,.one (.c (.func fn_f fa_f fc_f)))::(tI 5 x_v10)::(tI 8 x_v10)::(JJ s a_s c_s fn_f fa_f fc_f)) a4)=>?_
    refine Rk 4 1 ((tI 15 x14)::(11,.one (.c (.func fn_f fa_f fc_f)))::(tI 5 x_v10)::(tI 8 x_v10)::(JJ s a_s c_s fn_f fa_f fc_f)) ao y fun bd aq=>?_
    obtain⟨x16,ex16,a⟩:=Ap a
    refine wl fun K hK=>?_
    refine E8 (.func fn_f fa_f fc_f) [.c (.int .i64 x14)] _ aq y rfl rfl (by decide) (by rfl) (by rfl) rfl (hf_f _ _ (Ac.le_refl _) y.has x14 _ ex16) fun bh a6 bj ah ay i=>?_
    obtain rfl:=ah
    refine⟨.one (.c (.bool x16)),rfl,fun ag (ar:Kn 19 [(e,k+(x_v10:Int).toNat*1)] ((tB 16 x16)::(tI 15 x14)::(11,.one (.c (.func fn_f fa_f fc_f)))::(tI 5 x_v10)::(tI 8 x_v10)::(JJ s a_s c_s fn_f fa_f fc_f)) ag)=>hK _ _ ?_⟩
    have x:Kn 19 [(e,k+(x_v10:Int).toNat*1)] ((tB 16 x16)::(tI 5 x_v10)::(tI 8 x_v10)::(JJ s a_s c_s fn_f fa_f fc_f)) ag:=ar.kp
    refine wf (wC (x16) x (fun q=>?_) (fun q=>?_))
    ·
     rw [Bc q] at a
     refine XT (Aa (Rk 0 2 [tI 4 x_v10] x i fun be au=>?_))
     refine wf (wp_ret ?_)
     obtain rfl:=XZ a
     obtain rfl:=XZ H
     exact rt (.one (.c (.int .i64 x_v10))) au i rfl
    ·
     rw [Bd q] at a
     refine wp_skip (Aa (Rk 0 2 ((tI 8 (IntKind.i64.wrap (x_v10+1)))::(JJ s a_s c_s fn_f fa_f fc_f)) x i fun bf av=>?_))
     refine wf ?_
     exact XY z ⟨Nat.lt_succ_self _,XY (IntKind.i64.wrap (x_v10+1)) ⟨_,_,rfl,(av.keep [8,7,0,1] (by rfl)).cut 0 (by kernel_rfl),i.cutPl 0 (by kernel_rfl),XU g ay,a⟩⟩
   ·
    rw [p,XV] at a
    refine wp_exit ?_
    obtain rfl:=XZ a
    exact XY () ⟨_,_,rfl,u.kp,d,g,rfl⟩
 ·
  rintro _ bk ⟨af,ab,m,rfl,aw,ad,a7,rfl⟩
  rw [Ex.bind_go] at H
  refine XT (Aa (Rk 0 1 [tI 4 (-1)] aw ad fun bg ax=>?_))
  refine wf (wp_ret ?_)
  obtain rfl:=XZ H
  exact rt (.one (.c (.int .i64 (-1)))) ax ad rfl
set_option maxRecDepth 100000 in
set_option maxHeartbeats 4000000 in
theorem Fc (n:Nat) {h:Ac} {w:World} (hh:Db h w) (s:List Int) {a_s:Option Addr} {c_s:Nat} (hr_s:At h a_s c_s s) (f:Int→Option Bool) {fn_f:Fn} {fa_f fc_f:Array Value} (hf_f:Ut h (.func fn_f fa_f fc_f) f) {r:Bool} (H:BE n s f=some r) :
  Calls Tryz.prog 65 #[.slice a_s s.length c_s,.func fn_f fa_f fc_f] w (Dd (fun h v=>v=.bool r) h w):=by
 refine enter 9 [.c (.slice a_s s.length c_s),.c (.func fn_f fa_f fc_f)] Tryz.func65 rfl rfl rfl rfl fun t hk=>?_
 have hm:=Aj.begin h w hh
 unfold BE at H
 refine XT (Aa (Rk 0 1 [tS 0 a_s s.length c_s,(1,.one (.c (.func fn_f fa_f fc_f)))] hk hm fun m g=>?_))
 refine wf (XT (Aa (Rk 0 2 [(6,.one (.c (.func fn_f fa_f fc_f))),tS 5 a_s s.length c_s] g hm fun p i=>?_)))
 obtain⟨x7,ex7,H⟩:=Ap H
 refine wl fun K hK=>?_
 refine wc [.c (.slice a_s s.length c_s),.c (.func fn_f fa_f fc_f)] i hm (FR n hm.has s hr_s f hf_f ex7) fun q k u b l a=>?_
 obtain rfl:=b
 refine⟨.one (.c (.int .i64 x7)),rfl,fun j (d:Kn 9 [] [tI 7 x7,(6,.one (.c (.func fn_f fa_f fc_f))),tS 5 a_s s.length c_s] j)=>hK _ _ ?_⟩
 refine Rk 3 2 [tB 4 (decide (x7≥0))] d a fun o e=>?_
 refine wf (wp_ret ?_)
 obtain rfl:=XZ H
 exact rt (.one (.c (.bool (decide (x7≥0))))) e a rfl
set_option maxRecDepth 100000 in
set_option maxHeartbeats 4000000 in
theorem MA (n:Nat) {h:Ac} {w:World} (hh:Db h w) (l:List Int) {a_l:Option Addr} {c_l:Nat} (hr_l:At h a_l c_l l) (right:Int→Option Bool) {fn_right:Fn} {fa_right fc_right:Array Value} (hf_right:Ut h (.func fn_right fa_right fc_right) right) {r:Bool} (H:DK n l right=some r) :
  Calls Tryz.prog 48 #[.slice a_l l.length c_l,.func fn_right fa_right fc_right] w (Dd (fun h v=>v=.bool r) h w):=by
 refine enter 9 [.c (.slice a_l l.length c_l),.c (.func fn_right fa_right fc_right)] Tryz.func48 rfl rfl rfl rfl fun t hk=>?_
 have hm:=Aj.begin h w hh
 unfold DK at H
 refine XT (Aa (wl fun K hK=>?_))
 refine wb (.c (.func fn_right fa_right fc_right)) hk hm fun a aa ac (u:Kn 9 [(a,0)] [tP 3 0 0,tS 0 a_l l.length c_l,(1,.one (.c (.func fn_right fa_right fc_right)))] aa) f=>hK _ _ ?_
 refine Rk 1 1 [tP 3 0 0,tS 0 a_l l.length c_l] u f fun ah x=>?_
 refine wf (XT (Aa (Rk 0 1 [tS 5 a_l l.length c_l,tP 3 0 0] x f fun ai y=>?_)))
 obtain⟨b,j,g,d⟩:=f.settlePlc (i:=0) rfl
 replace hr_l:=hr_l.mono j
 replace hf_right:=hf_right.mono j
 replace d:Aj ⟨w,h,A9⟩ b [(a,0)] [⟨[.func fn_right fa_right fc_right],none⟩] [] ac:=d
 have o:BW b a (right:Int→Option Bool):=BW.of (e:=[(a,0)]) (cs:=[.func fn_right fa_right fc_right]) (⟨_,_,_,rfl,hf_right⟩:rep b (right:Int→Option Bool) _) rfl g
 have ae:Ay b a [.func fn_right fa_right fc_right]:=Ay.of (e:=[(a,0)]) (cs:=[.func fn_right fa_right fc_right]) rfl g
 refine F8 1 #[] #[.pointer (some ⟨a,0,none⟩)] y rfl rfl (rfl) rfl (by decide) (by rfl) (by rfl) (by rfl) (by rfl) fun z (p:Kn 9 [(a,0)] [(6,.one (.c (.func (.func 66) #[] #[.pointer (some ⟨a,0,none⟩)]))),tS 5 a_l l.length c_l,tP 3 0 0] z)=>?_
 obtain⟨x7,ex7,H⟩:=Ap H
 refine wl fun K hK=>?_
 refine wc [.c (.slice a_l l.length c_l),.c (.func (.func 66) #[] #[.pointer (some ⟨a,0,none⟩)])] p d (Fc n d.has l hr_l (fun(y0:Int)=>C2 n y0 right) (show Ut b (.func (.func 66) #[] #[.pointer (some ⟨a,0,none⟩)]) (fun(y0:Int)=>C2 n y0 right) from fun h2 w2 hle hh y0 r H=>⟨66,_,_,rfl,fun _ _=>by kernel_rfl,Lk n hh y0 right (o.mono hle) H⟩) ex7) fun aj ad ak m af k=>?_
 obtain rfl:=m
 refine⟨.one (.c (.bool x7)),rfl,fun ab (q:Kn 9 [(a,0)] [tB 7 x7,(6,.one (.c (.func (.func 66) #[] #[.pointer (some ⟨a,0,none⟩)]))),tS 5 a_l l.length c_l,tP 3 0 0] ab)=>hK _ _ ?_⟩
 refine Rk 3 2 [tB 4 (!x7)] q k fun ag s=>?_
 refine wf (wp_ret ?_)
 obtain rfl:=XZ H
 exact rt (.one (.c (.bool (!x7)))) s k rfl
set_option maxRecDepth 100000 in
set_option maxHeartbeats 4000000 in
theorem Ll (n:Nat) {h:Ac} {w:World} (hh:Db h w) (b:BO) {cs_b:List Value} (hx_b:rep h b cs_b) {r:Bool} (H:Ce n b=some r) :
  Calls Tryz.prog 50 #[.agg cs_b.toArray] w (Dd (fun h v=>v=.bool r) h w):=by
 obtain⟨_,_,rfl,rfl,⟨_,_,rfl,rfl,rfl⟩⟩:=hx_b
 refine enter 18 [.agg [.int .i64 b.lo,.int .i64 b.hi,.int .i64 b.turn]] Tryz.func50 rfl rfl rfl rfl fun t hk=>?_
 have hm:=Aj.begin h w hh
 unfold Ce at H
 refine XT (Aa (wl fun K hK=>?_))
 refine wb (.agg [.int .i64 b.lo,.int .i64 b.hi,.int .i64 b.turn]) hk hm fun d ai az (ab:Kn 18 [(d,0)] [tP 1 0 0,tA 0 [.int .i64 b.lo,.int .i64 b.hi,.int .i64 b.turn]] ai) g=>hK _ _ ?_
 refine Rk 1 1 [tP 1 0 0] ab g fun au af=>?_
 refine wf (XT (Aa (Rk 0 4 [tI 6 b.hi,tI 4 b.lo,tP 1 0 0] af g fun av ag=>?_)))
 obtain⟨x7,ex7,H⟩:=Ap H
 refine wl fun K hK=>?_
 refine wc [.c (.int .i64 b.lo),.c (.int .i64 0),.c (.int .i64 b.hi)] ag g (CY n g.has b.lo 0 b.hi ex7) fun aw ak ay p am a=>?_
 obtain rfl:=p
 refine⟨.one (.c (.bool x7)),rfl,fun ah (s:Kn 18 [(d,0)] [tB 7 x7,tI 6 b.hi,tI 4 b.lo,tP 1 0 0] ah)=>hK _ _ ?_⟩
 refine Rk 5 1 [tB 8 x7,tP 1 0 0] s a fun m i=>?_
 rcases Bool.eq_false_or_eq_true (x7) with e | e
 ·
  rw [Bc e] at H
  have u:Kn 18 [(d,0)] [tB 8 true,tP 1 0 0] m:=(i.setB 8 true (by rfl) e).kp
  refine Rk 6 5 [tB 13 (decide (b.hi≤2000)),tP 1 0 0] u a fun o j=>?_
  rcases Bool.eq_false_or_eq_true (decide (b.hi≤2000)) with f | f
  ·
   rw [f,XW] at H
   have x:Kn 18 [(d,0)] [tB 13 true,tP 1 0 0] o:=(j.setB 13 true (by rfl) f).kp
   refine Rk 11 2 [tI 15 b.turn,tB 13 true] x a fun ao k=>?_
   obtain⟨x16,ex16,H⟩:=Ap H
   refine AF _ rfl (Al k (by kernel_rfl)) fun K hK=>?_
   refine wc [.c (.int .i64 b.turn),.c (.int .i64 0),.c (.int .i64 2000)] k a (CY n a.has b.turn 0 2000 ex16) fun ax al a0 q an l=>?_
   obtain rfl:=q
   refine⟨.one (.c (.bool x16)),rfl,fun aj (y:Kn 18 [(d,0)] [tB 16 x16,tI 15 b.turn,tB 13 true] aj)=>hK _ _ ?_⟩
   refine Rk 14 2 [tB 2 x16] y l fun ap z=>?_
   refine wf (wp_ret ?_)
   obtain rfl:=XZ H
   exact rt (.one (.c (.bool x16))) z l rfl
  ·
   rw [f,XV] at H
   have aa:Kn 18 [(d,0)] [tB 13 false,tP 1 0 0] o:=(j.setB 13 false (by rfl) f).kp
   refine Rk 11 5 [tB 2 false] aa a fun aq ac=>?_
   refine wf (wp_ret ?_)
   obtain rfl:=XZ H
   exact rt (.one (.c (.bool false))) ac a rfl
 ·
  rw [Bd e] at H
  have ad:Kn 18 [(d,0)] [tB 8 false,tP 1 0 0] m:=(i.setB 8 false (by rfl) e).kp
  refine Rk 6 10 [tB 2 false] ad a fun ar ae=>?_
  refine wf (wp_ret ?_)
  obtain rfl:=XZ H
  exact rt (.one (.c (.bool false))) ae a rfl
abbrev Pd (x:BO):List SC:=[.int .i64 x.lo,.int .i64 x.hi,.int .i64 x.turn]
set_option maxRecDepth 100000 in
set_option maxHeartbeats 4000000 in
theorem HM (n:Nat) {h:Ac} {w:World} (hh:Db h w) (x:BO) {cs_x:List Value} (hx_x:rep h x cs_x) (q0:BO→Option Bool) {b_q0:Nat} (hb_q0:BW h b_q0 q0) {r:Bool} (H:B1 n x q0=some r) :
  Calls Tryz.prog 68 #[.agg cs_x.toArray,.pointer (some ⟨b_q0,0,none⟩)] w (Dd (fun h v=>v=.bool r) h w):=by
 obtain⟨_,_,rfl,rfl,⟨_,_,rfl,rfl,rfl⟩⟩:=hx_x
 obtain⟨_,hx_q0,hc_q0⟩:=id hb_q0
 obtain⟨d,a,b,rfl,l⟩:=hx_q0
 refine E7 (e:=[(b_q0,0)]) 8 [.agg (Pd x),.c (.ptr 0 0)] Tryz.func68 rfl rfl rfl rfl fun t hk=>?_
 have hm:=Aj.begin h w hh
 replace hm:=hm.addPlc (o:=0) (cs:=[.func d a b]) (fun j c hj=>by rw [Nat.zero_add]; exact hc_q0 j _ (Am hj)) rfl (by kernel_rfl) (by kernel_rfl)
 replace hm:Aj ⟨w,h,A9⟩ h [(b_q0,0)] [⟨[.func d a b],none⟩] [] w:=hm
 unfold B1 at H
 refine XT (Aa (wl fun K hK=>?_))
 refine wb (.agg (Pd x)) hk hm fun g z ah (u:Kn 8 [(b_q0,0),(g,0)] [tP 2 1 0,tA 0 (Pd x),tP 1 0 0] z) f=>hK _ _ ?_
 refine Rk 1 1 [tP 2 1 0,tP 1 0 0] u f fun ac m=>?_
 refine wf (XT (Aa (Rk 0 2 [tA 5 (Pd x),(4,.one (.c (.func d a b)))] m f fun ad p=>?_)))
 obtain⟨x6,ex6,H⟩:=Ap H
 refine wl fun K hK=>?_
 refine E8 (.func d a b) [.agg (Pd x)] _ p f rfl rfl (by decide) (by rfl) (by rfl) rfl (l _ _ (Ac.le_refl _) f.has x _ ((Ab Ad (Ab Ad Ad)):rep h x _) _ ex6) fun af aa ag k ab i=>?_
 obtain rfl:=k
 refine⟨.one (.c (.bool x6)),rfl,fun y (q:Kn 8 [(b_q0,0),(g,0)] [tB 6 x6,tA 5 (Pd x),(4,.one (.c (.func d a b)))] y)=>hK _ _ ?_⟩
 refine Rk 3 2 [tB 3 (!x6)] q i fun ae s=>?_
 refine wf (wp_ret ?_)
 obtain rfl:=XZ H
 exact rt (.one (.c (.bool (!x6)))) s i rfl
abbrev Sv (x14:BO):List SC:=[.int .i64 x14.lo,.int .i64 x14.hi,.int .i64 x14.turn]
abbrev JK (s:List BO) (a_s:Option Addr) (c_s:Nat) (fn_f:Fn) (fa_f fc_f:Array Value):TM:=[tI 7 ((s.length:Nat):Int),tS 0 a_s s.length c_s,(1,.one (.c (.func fn_f fa_f fc_f)))]
set_option maxRecDepth 100000 in
set_option maxHeartbeats 4000000 in
theorem DP (n:Nat) {h:Ac} {w:World} (hh:Db h w) (s:List BO) {a_s:Option Addr} {c_s:Nat} (hr_s:At h a_s c_s s) (f:BO→Option Bool) {fn_f:Fn} {fa_f fc_f:Array Value} (hf_f:Uu h (.func fn_f fa_f fc_f) f) {r:Int} (H:Bh n s f=some r) :
  Calls Tryz.prog 94 #[.slice a_s s.length c_s,.func fn_f fa_f fc_f] w (Dd (fun h v=>v=.int .i64 r) h w):=by
 refine enter 19 [.c (.slice a_s s.length c_s),.c (.func fn_f fa_f fc_f)] Tryz.func94 rfl rfl rfl rfl fun t hk=>?_
 have hm:=Aj.begin h w hh
 unfold Bh at H
 refine XT (Aa (Rk 0 1 [tS 0 a_s s.length c_s,(1,.one (.c (.func fn_f fa_f fc_f)))] hk hm fun a8 al=>?_))
 refine wf (XT (XT (Aa (Rk 0 3 ((tI 8 0)::(JK s a_s c_s fn_f fa_f fc_f)) al hm fun bc ap=>?_))))
 refine wf ?_
 obtain⟨ae,ac,H⟩:=Ap H
 refine Aq (fun a' w'=>∃ (af:Unit)(ab:Array Value)(m:Ac),a' = ⟨ab,[]⟩∧Kn 19 [] [] ab∧Aj ⟨w,h,A9⟩ m [] [] [] w'∧Ac.le h m∧ae=.go af) ?_ ?_
 ·
  refine wp_block ?_
  refine Au (fun a3 a' w'=>∃ (x_v10:Int)(aa:Array Value)(g:Ac),a' = ⟨aa,[]⟩∧Kn 19 [] ((tI 8 x_v10)::(JK s a_s c_s fn_f fa_f fc_f)) aa∧Aj ⟨w,h,A9⟩ g [] [] [] w'∧Ac.le h g∧A2 a3 s f x_v10=some ae) n ?_ ?_
  ·
   exact XY 0 ⟨_,_,rfl,ap.kp,hm,Ac.le_refl _,ac⟩
  ·
   rintro z _ bi ⟨x_v10,aa,g,rfl,ak,d,i,a⟩
   clear ac
   obtain _ | z:=z
   ·
    rw [A2] at a; cases a
   rw [A2] at a
   replace hr_s:=hr_s.mono i
   replace hf_f:=hf_f.mono i
   refine XT (Aa (Rk 0 1 ((tB 9 (decide (x_v10<((s.length:Nat):Int))))::(tI 8 x_v10)::(JK s a_s c_s fn_f fa_f fc_f)) ak d fun a9 u=>?_))
   refine wf (XT (wC (decide (x_v10<((s.length:Nat):Int))) u (fun p=>?_) (fun p=>?_)))
   ·
    rw [p,XW] at a
    refine wp_skip (XT (wp_block (XT (Aa (Rk 0 2 ((tI 5 x_v10)::(tI 8 x_v10)::(JK s a_s c_s fn_f fa_f fc_f)) u d fun ba am=>?_)))))
    refine wf (XT (Aa (Rk 0 3 ((tI 13 x_v10)::(tS 12 a_s s.length c_s)::(11,.one (.c (.func fn_f fa_f fc_f)))::(tI 5 x_v10)::(tI 8 x_v10)::(JK s a_s c_s fn_f fa_f fc_f)) am d fun bb an=>?_)))
    obtain⟨x14,ex14,a⟩:=Ap a
    obtain⟨az,a0,a2⟩:=Ak ex14
    obtain⟨e,l,a5,ai,a1,aj⟩:=hr_s.get (by decide) a2
    obtain⟨_,_,rfl,rfl,⟨_,_,rfl,rfl,rfl⟩⟩:=a1
    have y:=d.addPlc (b:=e) (o:=l+(x_v10:Int).toNat*3) (cs:=(Sv x14)) (fun j c hj=>aj j _ (Am hj)) rfl (by kernel_rfl) (by kernel_rfl)
    refine AC 3 (x_v10) rfl rfl (rfl) rfl (by decide) an (by rfl) (by rfl) (by rfl) ai (by rfl) az a0 (by kernel_rfl) fun a4 (ao:Kn 19 [(e,l+(x_v10:Int).toNat*3)] ((tP 14 0 0)::(tI 13 x_v10)::(tS 12 a_s s.length c_s)::(11,.one (.c (.func fn_f fa_f fc_f)))::(tI 5 x_v10)::(tI 8 x_v10)::(JK s a_s c_s fn_f fa_f fc_f)) a4)=>?_
    refine Rk 4 1 ((tA 15 (Sv x14))::(11,.one (.c (.func fn_f fa_f fc_f)))::(tI 5 x_v10)::(tI 8 x_v10)::(JK s a_s c_s fn_f fa_f fc_f)) ao y fun bd aq=>?_
    obtain⟨x16,ex16,a⟩:=Ap a
    refine wl fun K hK=>?_
    refine E8 (.func fn_f fa_f fc_f) [.agg (Sv x14)] _ aq y rfl rfl (by decide) (by rfl) (by rfl) rfl (hf_f _ _ (Ac.le_refl _) y.has x14 _ ((Ab Ad (Ab Ad Ad)):rep g x14 _) _ ex16) fun bh a6 bj ah ay k=>?_
    obtain rfl:=ah
    refine⟨.one (.c (.bool x16)),rfl,fun ag (ar:Kn 19 [(e,l+(x_v10:Int).toNat*3)] ((tB 16 x16)::(tA 15 (Sv x14))::(11,.one (.c (.func fn_f fa_f fc_f)))::(tI 5 x_v10)::(tI 8 x_v10)::(JK s a_s c_s fn_f fa_f fc_f)) ag)=>hK _ _ ?_⟩
    have x:Kn 19 [(e,l+(x_v10:Int).toNat*3)] ((tB 16 x16)::(tI 5 x_v10)::(tI 8 x_v10)::(JK s a_s c_s fn_f fa_f fc_f)) ag:=ar.kp
    refine wf (wC (x16) x (fun q=>?_) (fun q=>?_))
    ·
     rw [Bc q] at a
     refine XT (Aa (Rk 0 2 [tI 4 x_v10] x k fun be au=>?_))
     refine wf (wp_ret ?_)
     obtain rfl:=XZ a
     obtain rfl:=XZ H
     exact rt (.one (.c (.int .i64 x_v10))) au k rfl
    ·
     rw [Bd q] at a
     refine wp_skip (Aa (Rk 0 2 ((tI 8 (IntKind.i64.wrap (x_v10+1)))::(JK s a_s c_s fn_f fa_f fc_f)) x k fun bf av=>?_))
     refine wf ?_
     exact XY z ⟨Nat.lt_succ_self _,XY (IntKind.i64.wrap (x_v10+1)) ⟨_,_,rfl,(av.keep [8,7,0,1] (by rfl)).cut 0 (by kernel_rfl),k.cutPl 0 (by kernel_rfl),XU i ay,a⟩⟩
   ·
    rw [p,XV] at a
    refine wp_exit ?_
    obtain rfl:=XZ a
    exact XY () ⟨_,_,rfl,u.kp,d,i,rfl⟩
 ·
  rintro _ bk ⟨af,ab,m,rfl,aw,ad,a7,rfl⟩
  rw [Ex.bind_go] at H
  refine XT (Aa (Rk 0 1 [tI 4 (-1)] aw ad fun bg ax=>?_))
  refine wf (wp_ret ?_)
  obtain rfl:=XZ H
  exact rt (.one (.c (.int .i64 (-1)))) ax ad rfl
set_option maxRecDepth 100000 in
set_option maxHeartbeats 4000000 in
theorem Dy (n:Nat) {h:Ac} {w:World} (hh:Db h w) (s:List BO) {a_s:Option Addr} {c_s:Nat} (hr_s:At h a_s c_s s) (f:BO→Option Bool) {fn_f:Fn} {fa_f fc_f:Array Value} (hf_f:Uu h (.func fn_f fa_f fc_f) f) {r:Bool} (H:AV n s f=some r) :
  Calls Tryz.prog 67 #[.slice a_s s.length c_s,.func fn_f fa_f fc_f] w (Dd (fun h v=>v=.bool r) h w):=by
 refine enter 9 [.c (.slice a_s s.length c_s),.c (.func fn_f fa_f fc_f)] Tryz.func67 rfl rfl rfl rfl fun t hk=>?_
 have hm:=Aj.begin h w hh
 unfold AV at H
 refine XT (Aa (Rk 0 1 [tS 0 a_s s.length c_s,(1,.one (.c (.func fn_f fa_f fc_f)))] hk hm fun m g=>?_))
 refine wf (XT (Aa (Rk 0 2 [(6,.one (.c (.func fn_f fa_f fc_f))),tS 5 a_s s.length c_s] g hm fun p i=>?_)))
 obtain⟨x7,ex7,H⟩:=Ap H
 refine wl fun K hK=>?_
 refine wc [.c (.slice a_s s.length c_s),.c (.func fn_f fa_f fc_f)] i hm (DP n hm.has s hr_s f hf_f ex7) fun q k u b l a=>?_
 obtain rfl:=b
 refine⟨.one (.c (.int .i64 x7)),rfl,fun j (d:Kn 9 [] [tI 7 x7,(6,.one (.c (.func fn_f fa_f fc_f))),tS 5 a_s s.length c_s] j)=>hK _ _ ?_⟩
 refine Rk 3 2 [tB 4 (decide (x7≥0))] d a fun o e=>?_
 refine wf (wp_ret ?_)
 obtain rfl:=XZ H
 exact rt (.one (.c (.bool (decide (x7≥0))))) e a rfl
set_option maxRecDepth 100000 in
set_option maxHeartbeats 4000000 in
theorem IZ (n:Nat) {h:Ac} {w:World} (hh:Db h w) (l:List BO) {a_l:Option Addr} {c_l:Nat} (hr_l:At h a_l c_l l) (right:BO→Option Bool) {fn_right:Fn} {fa_right fc_right:Array Value} (hf_right:Uu h (.func fn_right fa_right fc_right) right) {r:Bool} (H:Cm n l right=some r) :
  Calls Tryz.prog 49 #[.slice a_l l.length c_l,.func fn_right fa_right fc_right] w (Dd (fun h v=>v=.bool r) h w):=by
 refine enter 9 [.c (.slice a_l l.length c_l),.c (.func fn_right fa_right fc_right)] Tryz.func49 rfl rfl rfl rfl fun t hk=>?_
 have hm:=Aj.begin h w hh
 unfold Cm at H
 refine XT (Aa (wl fun K hK=>?_))
 refine wb (.c (.func fn_right fa_right fc_right)) hk hm fun a aa ac (u:Kn 9 [(a,0)] [tP 3 0 0,tS 0 a_l l.length c_l,(1,.one (.c (.func fn_right fa_right fc_right)))] aa) f=>hK _ _ ?_
 refine Rk 1 1 [tP 3 0 0,tS 0 a_l l.length c_l] u f fun ah x=>?_
 refine wf (XT (Aa (Rk 0 1 [tS 5 a_l l.length c_l,tP 3 0 0] x f fun ai y=>?_)))
 obtain⟨b,j,g,d⟩:=f.settlePlc (i:=0) rfl
 replace hr_l:=hr_l.mono j
 replace hf_right:=hf_right.mono j
 replace d:Aj ⟨w,h,A9⟩ b [(a,0)] [⟨[.func fn_right fa_right fc_right],none⟩] [] ac:=d
 have o:BW b a (right:BO→Option Bool):=BW.of (e:=[(a,0)]) (cs:=[.func fn_right fa_right fc_right]) (⟨_,_,_,rfl,hf_right⟩:rep b (right:BO→Option Bool) _) rfl g
 have ae:Ay b a [.func fn_right fa_right fc_right]:=Ay.of (e:=[(a,0)]) (cs:=[.func fn_right fa_right fc_right]) rfl g
 refine F8 1 #[] #[.pointer (some ⟨a,0,none⟩)] y rfl rfl (rfl) rfl (by decide) (by rfl) (by rfl) (by rfl) (by rfl) fun z (p:Kn 9 [(a,0)] [(6,.one (.c (.func (.func 68) #[] #[.pointer (some ⟨a,0,none⟩)]))),tS 5 a_l l.length c_l,tP 3 0 0] z)=>?_
 obtain⟨x7,ex7,H⟩:=Ap H
 refine wl fun K hK=>?_
 refine wc [.c (.slice a_l l.length c_l),.c (.func (.func 68) #[] #[.pointer (some ⟨a,0,none⟩)])] p d (Dy n d.has l hr_l (fun(y0:BO)=>B1 n y0 right) (show Uu b (.func (.func 68) #[] #[.pointer (some ⟨a,0,none⟩)]) (fun(y0:BO)=>B1 n y0 right) from fun h2 w2 hle hh y0 cs0 hy0 r H=>⟨68,_,_,rfl,fun _ _=>by kernel_rfl,HM n hh y0 hy0 right (o.mono hle) H⟩) ex7) fun aj ad ak m af k=>?_
 obtain rfl:=m
 refine⟨.one (.c (.bool x7)),rfl,fun ab (q:Kn 9 [(a,0)] [tB 7 x7,(6,.one (.c (.func (.func 68) #[] #[.pointer (some ⟨a,0,none⟩)]))),tS 5 a_l l.length c_l,tP 3 0 0] ab)=>hK _ _ ?_⟩
 refine Rk 3 2 [tB 4 (!x7)] q k fun ag s=>?_
 refine wf (wp_ret ?_)
 obtain rfl:=XZ H
 exact rt (.one (.c (.bool (!x7)))) s k rfl
set_option maxRecDepth 100000 in
set_option maxHeartbeats 4000000 in
theorem Ja (n:Nat) {h:Ac} {w:World} (hh:Db h w) (n_:Int) {r:Bool} (H:BM n n_=some r) :
  Calls Tryz.prog 46 #[.int .i64 n_] w (Dd (fun h v=>v=.bool r) h w):=by
 refine enter 5 [.c (.int .i64 n_)] Tryz.func46 rfl rfl rfl rfl fun t hk=>?_
 have hm:=Aj.begin h w hh
 unfold BM at H
 refine XT (Aa (Rk 0 1 [tI 0 n_] hk hm fun l f=>?_))
 refine wf (XT (Aa (Rk 0 1 [tI 3 n_] f hm fun o g=>?_)))
 obtain⟨x4,ex4,H⟩:=Ap H
 refine wl fun K hK=>?_
 refine wc [.c (.int .i64 n_),.c (.int .i64 0),.c (.int .i64 8)] g hm (CY n hm.has n_ 0 8 ex4) fun p j q b k a=>?_
 obtain rfl:=b
 refine⟨.one (.c (.bool x4)),rfl,fun i (d:Kn 5 [] [tB 4 x4,tI 3 n_] i)=>hK _ _ ?_⟩
 refine Rk 2 1 [tB 2 x4] d a fun m e=>?_
 refine wf (wp_ret ?_)
 obtain rfl:=XZ H
 exact rt (.one (.c (.bool x4))) e a rfl
abbrev NL (x48:BO):List SC:=[.int .i64 x48.lo,.int .i64 x48.hi,.int .i64 x48.turn]
abbrev NM (a q s:Nat) (x_v10:Int) (u:Nat):AG:=[(a,0),(q,s+(x_v10:Int).toNat*3),(u,0)]
abbrev Lm (i:Option Addr) (y:Ag) (l:Nat) (d:Option Addr) (e:Nat):List SC:=[.slice i y.room.length l,.slice d y.buses.length e,.int .i64 y.broken]
abbrev GH (y:Ag) (d:Option Addr) (e f:Nat):TM:=[tI 45 ((y.buses.length:Nat):Int),tS 44 d y.buses.length e,(4,.one (.c (.map (some f))))]
abbrev GI:TM:=[(3,.one (.c (.func (.func 46) #[] #[]))),tP 1 0 0]
set_option maxRecDepth 100000 in
set_option maxHeartbeats 4000000 in
theorem Eo (n:Nat) {h:Ac} {w:World} (hh:Db h w) (y:Ag) {cs_y:List Value} (hx_y:rep h y cs_y) {r:Int} (H:Cp n y=some r) :
  Calls Tryz.prog 25 #[.agg cs_y.toArray] w (Dd (fun h v=>v=.int .i64 r) h w):=by
 obtain⟨_,_,rfl,⟨i,l,rfl,z⟩,⟨_,_,rfl,⟨d,e,rfl,p⟩,rfl⟩⟩:=hx_y
 refine enter 58 [.agg (Lm i y l d e)] Tryz.func25 rfl rfl rfl rfl fun t hk=>?_
 have hm:=Aj.begin h w hh
 unfold Cp at H
 refine XT (Aa (wl fun K hK=>?_))
 refine wb (.agg (Lm i y l d e)) hk hm fun a dx e4 (cg:Kn 58 [(a,0)] [tP 1 0 0,tA 0 (Lm i y l d e)] dx) ac=>hK _ _ ?_
 refine Rk 1 1 [tP 1 0 0] cg ac fun d8 cl=>?_
 refine wf (XT (Aa (Rk 0 1 GI cl ac fun ea cp=>?_)))
 refine wf (XT (wp_block (XT ?_)))
 obtain⟨bz,an,H⟩:=Ap H
 refine Aq (fun a' w'=>∃ (be:Array Value)(aq:Ac),a' = ⟨be,[]⟩∧Kn 58 [(a,0)] [(3,.one (.c (.func (.func 46) #[] #[]))),tP 1 0 0,tB 7 bz] be∧Aj ⟨w,h,A9⟩ aq [(a,0)] [⟨Lm i y l d e,some 33⟩] [] w'∧Ac.le h aq) ?_ ?_
 ·
  refine Aa (Rk 0 5 ((tB 12 (decide (((y.room.length:Nat):Int)>3)))::GI) cp ac fun b3 bj=>?_)
  rcases Bool.eq_false_or_eq_true (decide (((y.room.length:Nat):Int)>3)) with ah | ah
  ·
   rw [ah,XW] at an
   have c2:Kn 58 [(a,0)] ((tB 12 true)::GI) b3:=(bj.setB 12 true (by rfl) ah).kp
   refine Rk 5 6 ((tB 7 true)::GI) c2 ac fun eg c3=>?_
   refine wf ?_
   obtain rfl:=XZ an
   exact XY _ ⟨_,rfl,c3.kp,ac,Ac.le_refl _⟩
  ·
   rw [ah,XV] at an
   have c4:Kn 58 [(a,0)] ((tB 12 false)::GI) b3:=(bj.setB 12 false (by rfl) ah).kp
   refine Rk 5 6 ((tB 7 (decide (((y.buses.length:Nat):Int)>8)))::GI) c4 ac fun eh c5=>?_
   refine wf ?_
   obtain rfl:=XZ an
   exact XY _ ⟨_,rfl,c5.kp,ac,Ac.le_refl _⟩
 ·
  rintro _ e0 ⟨be,aq,rfl,a3,aa,bq⟩
  replace z:=z.mono bq
  replace p:=p.mono bq
  refine wC (bz) a3 (fun az=>?_) (fun az=>?_)
  ·
   rw [Bc az] at H
   refine XT (Aa (Rk 0 1 [tI 2 3] a3 aa fun ei c6=>?_))
   refine wf (wp_ret ?_)
   obtain rfl:=XZ H
   exact rt (.one (.c (.int .i64 3))) c6 aa rfl
  ·
   rw [Bd az] at H
   refine XT ?_
   obtain⟨ba,g,H⟩:=Ap H
   refine Aq (fun a' w'=>∃ (bf:Array Value)(ab:Ac),a' = ⟨bf,[]⟩∧Kn 58 [(a,0)] [tP 1 0 0,tB 18 ba] bf∧Aj ⟨w,h,A9⟩ ab [(a,0)] [⟨Lm i y l d e,some 33⟩] [] w'∧Ac.le aq ab) ?_ ?_
   ·
    refine Aa (Rk 0 5 ((tB 23 (((y.room.length:Nat):Int) == 0))::GI) a3 aa fun b4 bk=>?_)
    rcases Bool.eq_false_or_eq_true ((((y.room.length:Nat):Int) == 0)) with ai | ai
    ·
     rw [ai,XW] at g
     have c7:Kn 58 [(a,0)] ((tB 23 true)::GI) b4:=(bk.setB 23 true (by rfl) ai).kp
     refine Rk 5 19 [tB 18 true,tP 1 0 0] c7 aa fun ej c8=>?_
     refine wf ?_
     obtain rfl:=XZ g
     exact XY _ ⟨_,rfl,c8.kp,aa,Ac.le_refl _⟩
    ·
     rw [ai,XV] at g
     have c9:Kn 58 [(a,0)] ((tB 23 false)::GI) b4:=(bk.setB 23 false (by rfl) ai).kp
     refine Rk 5 2 ((tI 25 y.broken)::(tB 23 false)::GI) c9 aa fun ek bl=>?_
     obtain⟨x26,ex26,g⟩:=Ap g
     refine AF _ rfl (Al bl (by kernel_rfl)) fun K hK=>?_
     refine wc [.c (.int .i64 y.broken),.c (.int .i64 0),.c (.int .i64 2)] bl aa (CY n aa.has y.broken 0 2 ex26) fun et cc e1 b9 al ae=>?_
     replace z:=z.mono al
     replace p:=p.mono al
     obtain rfl:=b9
     refine⟨.one (.c (.bool x26)),rfl,fun dv (da:Kn 58 [(a,0)] ((tB 26 x26)::(tI 25 y.broken)::(tB 23 false)::GI) dv)=>hK _ _ ?_⟩
     refine Rk 8 3 ((tB 29 (!x26))::GI) da ae fun b5 bm=>?_
     rcases Bool.eq_false_or_eq_true ((!x26)) with aj | aj
     ·
      rw [aj,XW] at g
      have db:Kn 58 [(a,0)] ((tB 29 true)::GI) b5:=(bm.setB 29 true (by rfl) aj).kp
      refine Rk 11 13 [tB 18 true,tP 1 0 0] db ae fun el dc=>?_
      refine wf ?_
      obtain rfl:=XZ g
      exact XY _ ⟨_,rfl,dc.kp,ae,al⟩
     ·
      rw [aj,XV] at g
      have dd:Kn 58 [(a,0)] ((tB 29 false)::GI) b5:=(bm.setB 29 false (by rfl) aj).kp
      refine Rk 11 3 [(32,.one (.c (.func (.func 46) #[] #[]))),tS 31 i y.room.length l,tB 29 false,tP 1 0 0] dd ae fun em bn=>?_
      obtain⟨x33,ex33,g⟩:=Ap g
      refine AF _ rfl (Al bn (by kernel_rfl)) fun K hK=>?_
      refine wc [.c (.slice i y.room.length l),.c (.func (.func 46) #[] #[])] bn ae (MA n ae.has y.room z (fun(y0:Int)=>BM n y0) (show Ut cc (.func (.func 46) #[] #[]) (fun(y0:Int)=>BM n y0) from fun h2 w2 hle hh y0 r H=>⟨46,_,_,rfl,fun _ _=>by kernel_rfl,Ja n hh y0 H⟩) ex33) fun eu cd e2 ca ar af=>?_
      replace z:=z.mono ar
      replace p:=p.mono ar
      obtain rfl:=ca
      refine⟨.one (.c (.bool x33)),rfl,fun dw (de:Kn 58 [(a,0)] [tB 33 x33,(32,.one (.c (.func (.func 46) #[] #[]))),tS 31 i y.room.length l,tB 29 false,tP 1 0 0] dw)=>hK _ _ ?_⟩
      refine Rk 15 3 [tB 36 (!x33),tP 1 0 0] de af fun b6 bo=>?_
      rcases Bool.eq_false_or_eq_true ((!x33)) with ak | ak
      ·
       rw [ak,XW] at g
       have df:Kn 58 [(a,0)] [tB 36 true,tP 1 0 0] b6:=(bo.setB 36 true (by rfl) ak).kp
       refine Rk 18 6 [tB 18 true,tP 1 0 0] df af fun en dg=>?_
       refine wf ?_
       obtain rfl:=XZ g
       exact XY _ ⟨_,rfl,dg.kp,af,XU al ar⟩
      ·
       rw [ak,XV] at g
       have dh:Kn 58 [(a,0)] [tB 36 false,tP 1 0 0] b6:=(bo.setB 36 false (by rfl) ak).kp
       refine Rk 18 2 [tS 38 d y.buses.length e,tB 36 false,tP 1 0 0] dh af fun eo bp=>?_
       obtain⟨x39,ex39,g⟩:=Ap g
       refine AF _ rfl (Al bp (by kernel_rfl)) fun K hK=>?_
       refine wc [.c (.slice d y.buses.length e),.c (.func (.func 50) #[] #[])] bp af (IZ n af.has y.buses p (fun(y0:BO)=>Ce n y0) (show Uu cd (.func (.func 50) #[] #[]) (fun(y0:BO)=>Ce n y0) from fun h2 w2 hle hh y0 cs0 hy0 r H=>⟨50,_,_,rfl,fun _ _=>by kernel_rfl,Ll n hh y0 hy0 H⟩) ex39) fun ev d4 e3 cb dl bv=>?_
       obtain rfl:=cb
       refine⟨.one (.c (.bool x39)),rfl,fun dy (di:Kn 58 [(a,0)] [tB 39 x39,tS 38 d y.buses.length e,tB 36 false,tP 1 0 0] dy)=>hK _ _ ?_⟩
       refine Rk 21 3 [tB 18 (!x39),tP 1 0 0] di bv fun ep dj=>?_
       refine wf ?_
       obtain rfl:=XZ g
       exact XY _ ⟨_,rfl,dj.kp,bv,XU al (XU ar dl)⟩
   ·
    rintro _ d0 ⟨bf,ab,rfl,a4,a8,br⟩
    replace z:=z.mono br
    replace p:=p.mono br
    refine wC (ba) a4 (fun a0=>?_) (fun a0=>?_)
    ·
     rw [Bc a0] at H
     refine XT (Aa (Rk 0 1 [tI 2 1] a4 a8 fun er dk=>?_))
     refine wf (wp_ret ?_)
     obtain rfl:=XZ H
     exact rt (.one (.c (.int .i64 1))) dk a8 rfl
    ·
     rw [Bd a0] at H
     refine wp_skip (XT (Aa (wl fun K hK=>?_)))
     refine Km a4 a8 rfl rfl (by decide) fun f dt d3 (ch:Kn 58 [(a,0)] [(42,.one (.c (.map (some f)))),tP 1 0 0,tB 18 ba] dt) (a6:Aj (Fr.put ⟨w,h,A9⟩ f (some (.map #[] 0))) ab [(a,0)] [⟨Lm i y l d e,some 33⟩] [] (World.alloc d0 (.map #[] 0)))=>?_
     have b8:Cc ab (#[]:Array MapEntry).toList 0 ([]:List (Int×Bool)):=Cc.nil
     refine hK _ _ ?_
     refine Rk 1 1 [(4,.one (.c (.map (some f)))),tP 1 0 0] ch a6 fun d6 ci=>?_
     refine wf (XT (XT (Aa (Rk 0 4 ((tI 46 0)::(GH y d e f)) ci a6 fun d7 cj=>?_))))
     refine wf ?_
     obtain⟨bx,bh,H⟩:=Ap H
     refine Aq (fun a' w'=>∃ (bb:List (Int×Bool))(av:Array MapEntry)(au:Nat)(bc:Array Value)(ap:Ac),a' = ⟨bc,[]⟩∧Kn 58 [(a,0)] [] bc∧Aj (Fr.put ⟨w,h,A9⟩ f (some (.map av au))) ap [(a,0)] [⟨Lm i y l d e,some 33⟩] [] w'∧Ac.le ab ap∧Cc ap av.toList au bb∧bx=.go bb) ?_ ?_
     ·
      refine wp_block ?_
      refine Au (fun ds a' w'=>∃ (x_v10:Int)(x_v11:List (Int×Bool))(ao:Array MapEntry)(am:Nat)(bd:Array Value)(ag:Ac),a' = ⟨bd,[]⟩∧Kn 58 [(a,0)] ((tI 46 x_v10)::(GH y d e f)) bd∧Aj (Fr.put ⟨w,h,A9⟩ f (some (.map ao am))) ag [(a,0)] [⟨Lm i y l d e,some 33⟩] [] w'∧Ac.le ab ag∧Cc ag ao.toList am x_v11∧B9 ds y x_v10 x_v11=some bx) n ?_ ?_
      ·
       exact XY 0 ⟨([]:List (Int×Bool)),#[],0,_,_,rfl,cj.kp,a6,Ac.le_refl _,b8,bh⟩
      ·
       rintro a9 _ ew ⟨x_v10,x_v11,ao,am,bd,ag,rfl,ck,a7,a5,aw,m⟩
       clear bh
       obtain _ | a9:=a9
       ·
        rw [B9] at m; cases m
       rw [B9] at m
       replace p:=p.mono a5
       refine XT (Aa (Rk 0 1 ((tB 47 (decide (x_v10<((y.buses.length:Nat):Int))))::(tI 46 x_v10)::(GH y d e f)) ck a7 fun d9 a1=>?_))
       refine wf (XT (wC (decide (x_v10<((y.buses.length:Nat):Int))) a1 (fun ax=>?_) (fun ax=>?_)))
       ·
        rw [ax,XW] at m
        refine wp_skip (XT (wp_block (XT (Aa ?_))))
        obtain⟨x48,ex48,m⟩:=Ap m
        obtain⟨dn,dp,dr⟩:=Ak ex48
        obtain⟨q,s,d1,ce,dq,cf⟩:=p.get (by decide) dr
        obtain⟨_,_,rfl,rfl,⟨_,_,rfl,rfl,rfl⟩⟩:=dq
        have bs:=a7.addPlc (b:=q) (o:=s+(x_v10:Int).toNat*3) (cs:=(NL x48)) (fun j c hj=>cf j _ (Am hj)) rfl (by kernel_rfl) (by kernel_rfl)
        refine AC 0 (x_v10) rfl rfl (rfl) rfl (by decide) a1 (by rfl) (by rfl) (by rfl) ce (by rfl) dn dp (by kernel_rfl) fun du (cm:Kn 58 [(a,0),(q,s+(x_v10:Int).toNat*3)] ((tP 48 1 0)::(tB 47 (decide (x_v10<((y.buses.length:Nat):Int))))::(tI 46 x_v10)::(GH y d e f)) du)=>?_
        refine Rk 1 1 ((tA 49 (NL x48))::(tI 46 x_v10)::(GH y d e f)) cm bs fun eb cn=>?_
        refine wl fun K hK=>?_
        refine wa [.int .i64 0,.int .i64 0,.int .i64 0] cn bs fun u b0 ex (co:Kn 58 (NM a q s x_v10 u) ((tP 6 2 0)::(tA 49 (NL x48))::(tI 46 x_v10)::(GH y d e f)) b0) dm=>hK _ _ ?_
        refine wl fun K hK=>?_
        refine Eb 2 0 (.agg (NL x48)) (NL x48) co dm fun ey cq ad=>hK _ _ ?_
        have cr:Kn 58 (NM a q s x_v10 u) ((tP 6 2 0)::(tI 46 x_v10)::(GH y d e f)) b0:=cq.kp
        refine wf (XT (XT (Aa (Rk 0 3 ((tI 52 x48.turn)::(50,.one (.c (.map (some f))))::(tP 6 2 0)::(tI 46 x_v10)::(GH y d e f)) cr ad fun ec ct=>?_))))
        obtain⟨x53,ex53,m⟩:=Ap m
        refine wl fun K hK=>?_
        refine Hg (KT:=3) (E:=4) (k:=(x48.turn:Int)) (false:Bool) (.c (.int .i64 x48.turn)) ct rfl rfl (by decide) (by rfl) (by rfl) (by kernel_rfl) (KL.int (by kernel_rfl)) (ad.ext (Fr.put_X _ _ _)) aw rfl (by kernel_rfl) rfl fun es bw=>?_
        rw [XZ ex53] at bw ⊢
        obtain rfl:=bw
        refine⟨.one (.c (.bool x53.1)),rfl,fun b1 (cu:Kn 58 (NM a q s x_v10 u) ((tB 53 x53.1)::(tI 52 x48.turn)::(50,.one (.c (.map (some f))))::(tP 6 2 0)::(tI 46 x_v10)::(GH y d e f)) b1)=>hK _ _ ?_⟩
        have a2:Kn 58 (NM a q s x_v10 u) ((tB 53 x53.1)::(tP 6 2 0)::(tI 46 x_v10)::(GH y d e f)) b1:=cu.kp
        refine wf (wC (x53.1) a2 (fun ay=>?_) (fun ay=>?_))
        ·
         rw [Bc ay] at m
         refine XT (Aa (Rk 0 1 [tI 2 1] a2 ad fun ed cv=>?_))
         refine wf (wp_ret ?_)
         obtain rfl:=XZ m
         obtain rfl:=XZ H
         exact rt (.one (.c (.int .i64 1))) cv ad rfl
        ·
         rw [Bd ay] at m
         refine wp_skip (Aa (Rk 0 3 ((tI 56 x48.turn)::(54,.one (.c (.map (some f))))::(tI 46 x_v10)::(GH y d e f)) a2 ad fun b2 cw=>?_))
         refine wl fun K hK=>?_
         refine Kq (KT:=3) (E:=4) (k:=(x48.turn:Int)) (x:=(true:Bool)) (.c (.int .i64 x48.turn)) (.c (.bool true)) cw ad rfl rfl (by rfl) (by rfl) (by rfl) (by kernel_rfl) (KL.int (by kernel_rfl)) aw rfl rfl fun bi bg dz b7 (cx:Kn 58 (NM a q s x_v10 u) ((tI 56 x48.turn)::(54,.one (.c (.map (some f))))::(tI 46 x_v10)::(GH y d e f)) b2) (bt:Aj (Fr.put ⟨w,h,A9⟩ f (some (.map bi bg))) ag (NM a q s x_v10 u) [⟨Lm i y l d e,some 33⟩,⟨NL x48,none⟩,⟨NL x48,some 61⟩] [] dz)=>hK _ _ ?_
         have cy:Kn 58 (NM a q s x_v10 u) ((tI 46 x_v10)::(GH y d e f)) b2:=cx.kp
         refine wf (Aa (Rk 0 2 ((tI 46 (IntKind.i64.wrap (x_v10+1)))::(GH y d e f)) cy bt fun ee cz=>?_))
         refine wf ?_
         exact XY a9 ⟨Nat.lt_succ_self _,XY (IntKind.i64.wrap (x_v10+1)) ⟨G7 x_v11 x48.turn true,bi,bg,_,_,rfl,(cz.keep [46,45,44,4] (by rfl)).cut 1 (by kernel_rfl),bt.cutPl 1 (by kernel_rfl),a5,b7,m⟩⟩
       ·
        rw [ax,XV] at m
        refine wp_exit ?_
        obtain rfl:=XZ m
        exact XY x_v11 ⟨ao,am,_,_,rfl,a1.kp,a7,a5,aw,rfl⟩
     ·
      rintro _ ez ⟨bb,av,au,bc,ap,rfl,c0,bu,d5,d2,rfl⟩
      rw [Ex.bind_go] at H
      refine XT (Aa (Rk 0 1 [tI 2 0] c0 bu fun ef c1=>?_))
      refine wf (wp_ret ?_)
      obtain rfl:=XZ H
      exact rt (.one (.c (.int .i64 0))) c1 bu rfl
set_option maxRecDepth 100000 in
set_option maxHeartbeats 4000000 in
theorem CR (n:Nat) {h:Ac} {w:World} (hh:Db h w) (s:List Int) {a_s:Option Addr} {c_s:Nat} (hr_s:At h a_s c_s s) {r:List Int} (H:Bu n s=some r) :
  Calls Tryz.prog 36 #[.slice a_s s.length c_s] w (U1 (fun h v rs=>∃ (j:Option Addr)(k:Nat)(p:List Value),v=.slice j r.length k∧rs=[⟨j,r.length,k,3,1,p,0⟩]∧Af h r p) h w):=by
 refine enter 8 [.c (.slice a_s s.length c_s)] Tryz.func36 rfl rfl rfl rfl fun t hk=>?_
 have hm:=Aj.begin h w hh
 unfold Bu at H
 refine XT (Aa (Rk 0 1 [tS 0 a_s s.length c_s] hk hm fun ak ab=>?_))
 refine wf (XT (XT (Aa (Rk 0 2 [tB 4 a_s.isNone,tS 0 a_s s.length c_s] ab hm fun am f=>?_))))
 refine wf (wC (a_s.isNone) f (fun l=>?_) (fun l=>?_))
 ·
  obtain rfl:=At.isNil hr_s (by decide) l
  replace H:some ([]:List Int)=some r:=by simpa [Ij] using H
  refine XT (Aa (Rk 0 1 [tS 2 none 0 0] f hm fun ao ae=>?_))
  refine wf (wp_ret ?_)
  have ag:Aj ⟨w,h,A9⟩ h [] [] [⟨none,0,0,3,1,([]:List Value),0⟩] w:=hm.nilRow 3 1
  obtain rfl:=XZ H
  exact PL (.one (.c (.slice none 0 0))) [0] ae ag (by kernel_rfl) (by kernel_rfl) (by kernel_rfl) ⟨_,_,_,rfl,rfl,Af.nil⟩
 ·
  refine wp_skip (XT (Aa (wl fun K hK=>?_)))
  refine wS 3 1 [] f hm fun d ai ap (z:Kn 8 [] [tS 5 d 0 0,tB 4 a_s.isNone,tS 0 a_s s.length c_s] ai) g=>?_
  have u:Af h ([]:List Int) ([]:List Value):=Af.nil
  refine hK _ _ ?_
  refine Rk 1 1 [tS 6 a_s s.length c_s,tS 5 d 0 0] z g fun al aa=>?_
  obtain⟨o,a,ah,_⟩:=id hr_s
  obtain⟨x7,ex7,H⟩:=Ap H
  obtain⟨i,af⟩:=AS ex7
  refine wl fun K hK=>?_
  refine AI 0 8 s.length _ (x7.length) _ o aa g rfl rfl (by decide) rfl (by rfl) (by kernel_rfl) (by rfl) (by rfl) (Af.len a) (ah.cell g.has a.one) a.one (by rw [i]; simp <;> omega) (by rw [i]; exact af) (by decide) fun b e q aj aq y (ac:Kn 8 [] [tS 7 b x7.length e,tS 6 a_s s.length c_s,tS 5 d 0 0] aj) m=>?_
  have x:Af h x7 (([]:List Value)++o):=by rw [i]; exact Af.append u a
  obtain rfl:q=0:=Nat.le_zero.1 y
  refine hK _ _ ?_
  refine Rk 3 1 [tS 2 b x7.length e] ac m fun an ad=>?_
  refine wf (wp_ret ?_)
  obtain rfl:=XZ H
  exact PL (.one (.c (.slice b x7.length e))) [0] ad m (by kernel_rfl) (by kernel_rfl) (by kernel_rfl) ⟨_,_,_,rfl,rfl,x⟩
end Go.Proofs.YthcbemnflgjadaaGreat
