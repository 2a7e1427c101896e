/- Each call computes its plain function. -/
import Derived.Test.YtokchpjijlebiaaProg
import Derived.Test.YtokchpjijlebiaaWGP0
import Derived.Test.YtokchpjijlebiaaWGWA
import Derived.Test.YtokchpjijlebiaaWGWB
import Derived.Test.YtokchpjijlebiaaWGWB1
import Derived.Test.YtokchpjijlebiaaWGWC
import Derived.Test.YtokchpjijlebiaaWGWC1
import Derived.Test.YtokchpjijlebiaaWGWD
import Derived.Test.YtokchpjijlebiaaWGWE
import Derived.Test.YtokchpjijlebiaaWGWJ1
import Derived.Test.YtokchpjijlebiaaWGWK1
set_option linter.all false
namespace Go.Proofs.Ytokchpjijlebiaa
open Go Go.RowKit
open Rep (rep)
open KRep (kv)
open VRep (rv)
theorem S9 {α:Type} {F:(α→Prop)→Prop} {q:α→Prop} (H:F q):∃ Q,Q=q∧F Q:=⟨q,rfl,H⟩
abbrev OP:List SC:=[.slice none 0 0,.slice none 0 0,.slice none 0 0]
abbrev DU (u:Option Addr) (a:Ao) (z:Nat) (x:Option Addr) (aa:Nat) (y:Option Addr) (ab:Nat):List SC:=[.slice u a.holds.length z,.slice x a.turns.length aa,.slice y a.spares.length ab]
abbrev KP (ao:Option Addr) (x124:Ay) (aw:Nat) (ap:Option Addr) (ax:Nat) (aq:Option Addr) (ay:Nat):List SC:=[.slice ao x124.tm.length aw,.slice ap x124.turns.length ax,.slice aq x124.legs.length ay]
abbrev Sd (bo:Option Addr) (x36:Ao) (br:Nat) (bp:Option Addr) (bs:Nat) (bq:Option Addr) (bt:Nat):List SC:=[.slice bo x36.holds.length br,.slice bp x36.turns.length bs,.slice bq x36.spares.length bt]
abbrev Mg (al:Option Addr) (x38:Ay×Int) (ar:Nat) (am:Option Addr) (au:Nat) (an:Option Addr) (av:Nat):List SC:=[.slice al x38.1.tm.length ar,.slice am x38.1.turns.length au,.slice an x38.1.legs.length av]
abbrev Db (i:Option Addr) (r_:Af) (m:Nat) (k:Option Addr) (p:Nat) (l:Option Addr) (q:Nat):List SC:=[.slice i r_.legs.length m,.int .i64 r_.turn.lo,.int .i64 r_.turn.hi,.slice k r_.buses.length p,.slice l r_.spares.length q,.int .i64 r_.unit,.int .i64 r_.gap,.int .i64 r_.fr,.int .i64 r_.to_]
abbrev Se (b1:Option Addr) (x26:Af) (b7:Nat) (b2:Option Addr) (b8:Nat) (b3:Option Addr) (b9:Nat):List SC:=[.slice b1 x26.legs.length b7,.int .i64 x26.turn.lo,.int .i64 x26.turn.hi,.slice b2 x26.buses.length b8,.slice b3 x26.spares.length b9,.int .i64 x26.unit,.int .i64 x26.gap,.int .i64 x26.fr,.int .i64 x26.to_]
abbrev Td (bx:Option Addr) (x34:Af) (b4:Nat) (bz:Option Addr) (b5:Nat) (b0:Option Addr) (b6:Nat):List SC:=[.slice bx x34.legs.length b4,.int .i64 x34.turn.lo,.int .i64 x34.turn.hi,.slice bz x34.buses.length b5,.slice b0 x34.spares.length b6,.int .i64 x34.unit,.int .i64 x34.gap,.int .i64 x34.fr,.int .i64 x34.to_]
abbrev Q5 (a9:Option Addr) (x34:Af) (bc:Nat) (ba:Option Addr) (bd:Nat) (bb:Option Addr) (be:Nat):List SC:=[.slice a9 x34.legs.length bc,.int .i64 x34.turn.lo,.int .i64 x34.turn.hi,.slice ba x34.buses.length bd,.slice bb x34.spares.length be,.int .i64 x34.unit,.int .i64 x34.gap,.int .i64 x34.fr,.int .i64 x34.to_]
abbrev GV (i:Option Addr) (r_:Af) (m:Nat) (k:Option Addr) (p:Nat) (l:Option Addr) (q:Nat) (u:Option Addr) (a:Ao) (z:Nat) (x:Option Addr) (aa:Nat) (y:Option Addr) (ab:Nat):List CM:=[⟨Db i r_ m k p l q,some 28⟩,⟨DU u a z x aa y ab,some 50⟩,⟨OP,some 76⟩]
abbrev B9 (f:Option Addr) (x29:(List Int)×Int) (g:Nat) (stop:Int):TM:=[tS 7 f x29.1.length g,tP 4 1 0,tP 3 0 0,tI 2 stop]
abbrev KQ (stop:Int) (u:Option Addr) (a:Ao) (z:Nat) (x:Option Addr) (aa:Nat) (y:Option Addr) (ab:Nat) (i:Option Addr) (r_:Af) (m:Nat) (k:Option Addr) (p:Nat) (l:Option Addr) (q:Nat) (x29:(List Int)×Int) (f:Option Addr) (g:Nat):TM:=(tI 37 stop)::(tA 35 (DU u a z x aa y ab))::(tA 33 (Db i r_ m k p l q))::(tI 8 x29.2)::(B9 f x29 g stop)
set_option maxRecDepth 100000 in
set_option maxHeartbeats 4000000 in
theorem Ji (n:Nat) {h:Ae} {w:World} (hh:CU h w) (r_:Af) {cs_r_:List Value} (hx_r_:rep h r_ cs_r_) (a:Ao) {cs_a:List Value} (hx_a:rep h a cs_a) (stop:Int) {Q:Bool→Prop} (H:DX n r_ a stop Q) :
  Calls Try.prog 9 #[.agg cs_r_.toArray,.agg cs_a.toArray,.int .i64 stop] w (Da (fun h v=>∃ r,Q r∧v=.bool r) h w):=by
 obtain⟨_,_,rfl,⟨i,m,rfl,ad⟩,⟨_,_,rfl,⟨_,_,rfl,rfl,rfl⟩,⟨_,_,rfl,⟨k,p,rfl,ae⟩,⟨_,_,rfl,⟨l,q,rfl,af⟩,⟨_,_,rfl,rfl,⟨_,_,rfl,rfl,⟨_,_,rfl,rfl,rfl⟩⟩⟩⟩⟩⟩⟩:=hx_r_
 obtain⟨_,_,rfl,⟨u,z,rfl,ag⟩,⟨_,_,rfl,⟨x,aa,rfl,ah⟩,⟨y,ab,rfl,ai⟩⟩⟩:=hx_a
 refine enter 147 [.agg (Db i r_ m k p l q),.agg (DU u a z x aa y ab),.c (.int .i64 stop)] Try.func9 rfl rfl rfl rfl fun t hk=>?_
 have hm:=Ah.begin h w hh
 unfold DX at H
 refine XT (Aa (wl fun K hK=>?_))
 refine wb (.agg (Db i r_ m k p l q)) hk hm fun d mu qg (jn:Kn 147 [(d,0)] [tP 3 0 0,tA 0 (Db i r_ m k p l q),tA 1 (DU u a z x aa y ab),tI 2 stop] mu) lq=>hK _ _ ?_
 refine wl fun K hK=>?_
 refine wb (.agg (DU u a z x aa y ab)) jn lq fun e mw qj (jv:Kn 147 [(d,0),(e,0)] [tP 4 1 0,tP 3 0 0,tA 0 (Db i r_ m k p l q),tA 1 (DU u a z x aa y ab),tI 2 stop] mw) ee=>hK _ _ ?_
 refine Rk 2 1 [tP 4 1 0,tP 3 0 0,tI 2 stop] jv ee fun oz j3=>?_
 refine wf (XT (XT (Aa (Rk 0 1 [tA 14 (Db i r_ m k p l q),tP 4 1 0,tP 3 0 0,tI 2 stop] j3 ee fun o2 j6=>?_))))
 obtain⟨x15,ex15,H⟩:=H
 refine wl fun K hK=>?_
 refine wc [.agg (Db i r_ m k p l q)] j6 ee (PD n ee.has r_ ((Ab (Ad ad) (Ab (Ab Ac Ac) (Ab (Ad ae) (Ab (Ad af) (Ab Ac (Ab Ac (Ab Ac Ac))))))):rep h r_ _) ex15) fun pv f2 qq h8 ck ce=>?_
 replace ad:=ad.mono ck
 replace ae:=ae.mono ck
 replace af:=af.mono ck
 replace ag:=ag.mono ck
 replace ah:=ah.mono ck
 replace ai:=ai.mono ck
 obtain rfl:=h8
 refine⟨.one (.c (.bool x15)),rfl,fun m5 (kn:Kn 147 [(d,0),(e,0)] [tB 15 x15,tA 14 (Db i r_ m k p l q),tP 4 1 0,tP 3 0 0,tI 2 stop] m5)=>hK _ _ ?_⟩
 refine Rk 2 2 [tB 17 (!x15),tP 4 1 0,tP 3 0 0,tI 2 stop] kn ce fun hs gn=>?_
 rcases Bool.eq_false_or_eq_true ((!x15)) with dq | dq
 ·
  rw [dq,XW] at H
  have kx:Kn 147 [(d,0),(e,0)] [tB 17 true,tP 4 1 0,tP 3 0 0,tI 2 stop] hs:=(gn.setB 17 true (by rfl) dq).kp
  refine Rk 4 5 [tB 22 true,tP 4 1 0,tP 3 0 0,tI 2 stop] kx ce fun pe go=>?_
  refine wf (wC true go (fun hb=>?_) (fun hb=>?_))
  rotate_left
  ·
   cases hb
  refine XT (Aa ?_)
  obtain⟨x23,ex23,H⟩:=H
  refine wl fun K hK=>?_
  refine wc [] go ce (Fp n ce.has  ex23) fun p1 n1 q0 ig n8 gy=>?_
  obtain rfl:=ig
  refine⟨.one (.c (.bool x23)),rfl,fun nb (k3:Kn 147 [(d,0),(e,0)] [tB 23 x23,tB 22 true,tP 4 1 0,tP 3 0 0,tI 2 stop] nb)=>hK _ _ ?_⟩
  refine Rk 1 1 [tB 6 x23] k3 gy fun pg k6=>?_
  refine wf (wp_ret ?_)
  exact rt (.one (.c (.bool x23))) k6 gy ⟨_,H,rfl⟩
 ·
  rw [dq,XV] at H
  have k9:Kn 147 [(d,0),(e,0)] [tB 17 false,tP 4 1 0,tP 3 0 0,tI 2 stop] hs:=(gn.setB 17 false (by rfl) dq).kp
  refine Rk 4 2 [tA 19 OP,tA 18 (DU u a z x aa y ab),tB 17 false,tP 4 1 0,tP 3 0 0,tI 2 stop] k9 ce fun pi gr=>?_
  obtain⟨x20,ex20,H⟩:=H
  refine AN _ rfl (Aj gr (by kernel_rfl)) fun K hK=>?_
  refine wc [.agg (DU u a z x aa y ab),.agg OP] gr ce (OH n ce.has a ((Ab (Ad ag) (Ab (Ad ah) (Ad ai))):rep f2 a _) (Ay.mk ([]:List Int) ([]:List Int) ([]:List (List Int))) ((Ab (Ad A8.nil) (Ab (Ad A8.nil) (Ad A8.nil))):rep f2 (Ay.mk ([]:List Int) ([]:List Int) ([]:List (List Int))) _) ex20) fun p7 iu q5 il cl bw=>?_
  replace ad:=ad.mono cl
  replace ae:=ae.mono cl
  replace af:=af.mono cl
  replace ag:=ag.mono cl
  replace ah:=ah.mono cl
  replace ai:=ai.mono cl
  obtain rfl:=il
  refine⟨.one (.c (.bool x20)),rfl,fun nk (ld:Kn 147 [(d,0),(e,0)] [tB 20 x20,tA 19 OP,tA 18 (DU u a z x aa y ab),tB 17 false,tP 4 1 0,tP 3 0 0,tI 2 stop] nk)=>hK _ _ ?_⟩
  refine Rk 7 2 [tB 22 (!x20),tP 4 1 0,tP 3 0 0,tI 2 stop] ld bw fun pj e9=>?_
  refine wf (wC ((!x20)) e9 (fun e3=>?_) (fun e3=>?_))
  ·
   rw [e3,XW] at H
   refine XT (Aa ?_)
   obtain⟨x23,ex23,H⟩:=H
   refine wl fun K hK=>?_
   refine wc [] e9 bw (Fp n bw.has  ex23) fun p8 n4 q6 im n9 g3=>?_
   obtain rfl:=im
   refine⟨.one (.c (.bool x23)),rfl,fun nl (lf:Kn 147 [(d,0),(e,0)] [tB 23 x23,tB 22 (!x20),tP 4 1 0,tP 3 0 0,tI 2 stop] nl)=>hK _ _ ?_⟩
   refine Rk 1 1 [tB 6 x23] lf g3 fun pk lg=>?_
   refine wf (wp_ret ?_)
   exact rt (.one (.c (.bool x23))) lg g3 ⟨_,H,rfl⟩
  ·
   rw [e3,XV] at H
   refine wp_skip (XT (Am (by kernel_rfl) ?_))
   replace bw:=bw.drew
   refine An [] [(d,0),(e,0)] [⟨Db i r_ m k p l q,some 28⟩,⟨DU u a z x aa y ab,some 50⟩] ?_
   refine Dr [0,2] [2,0] [tA 27 (DU u a z x aa y ab),tA 25 (Db i r_ m k p l q),tP 4 1 0,tP 3 0 0,tI 2 stop] e9 bw fun pl lh=>?_
   obtain⟨x26,ex26,H⟩:=H
   refine Dl 1 fun K hK=>?_
   refine wc [.agg (Db i r_ m k p l q)] lh bw (Ia n bw.has r_ ((Ab (Ad ad) (Ab (Ab Ac Ac) (Ab (Ad ae) (Ab (Ad af) (Ab Ac (Ab Ac (Ab Ac Ac))))))):rep iu r_ _) ex26) fun p9 iv q7 io cm fk=>?_
   replace ag:=ag.mono cm
   replace ah:=ah.mono cm
   replace ai:=ai.mono cm
   obtain⟨_,rfl,⟨_,_,rfl,⟨b1,b7,rfl,fo⟩,⟨_,_,rfl,⟨_,_,rfl,rfl,rfl⟩,⟨_,_,rfl,⟨b2,b8,rfl,fp⟩,⟨_,_,rfl,⟨b3,b9,rfl,fq⟩,⟨_,_,rfl,rfl,⟨_,_,rfl,rfl,⟨_,_,rfl,rfl,rfl⟩⟩⟩⟩⟩⟩⟩⟩:=io
   refine⟨.one (.agg (Se b1 x26 b7 b2 b8 b3 b9)),rfl,fun nm (li:Kn 147 [(d,0),(e,0)] [tA 26 (Se b1 x26 b7 b2 b8 b3 b9),tA 27 (DU u a z x aa y ab),tA 25 (Db i r_ m k p l q),tP 4 1 0,tP 3 0 0,tI 2 stop] nm)=>hK _ _ fk.plOk ?_⟩
   obtain⟨x28,ex28,H⟩:=H
   refine Dl 3 fun K hK=>?_
   refine wc [.agg (DU u a z x aa y ab)] li fk (IV n fk.has a ((Ab (Ad ag) (Ab (Ad ah) (Ad ai))):rep iv a _) ex28) fun pm fz qa hy bn fa=>?_
   replace fo:=fo.mono bn
   replace fp:=fp.mono bn
   replace fq:=fq.mono bn
   obtain⟨_,rfl,⟨_,_,rfl,⟨dv,d4,rfl,ly⟩,⟨_,_,rfl,⟨dw,d5,rfl,lz⟩,⟨dx,d6,rfl,l0⟩⟩⟩⟩:=hy
   refine⟨.one (.agg [.slice dv x28.holds.length d4,.slice dw x28.turns.length d5,.slice dx x28.spares.length d6]),rfl,fun mp (i0:Kn 147 [(d,0),(e,0)] [tA 28 [.slice dv x28.holds.length d4,.slice dw x28.turns.length d5,.slice dx x28.spares.length d6],tA 26 (Se b1 x26 b7 b2 b8 b3 b9),tA 27 (DU u a z x aa y ab),tA 25 (Db i r_ m k p l q),tP 4 1 0,tP 3 0 0,tI 2 stop] mp)=>hK _ _ fa.plOk ?_⟩
   obtain⟨x29,ex29,H⟩:=H
   refine Dl 4 fun K hK=>?_
   refine wc [.agg (Se b1 x26 b7 b2 b8 b3 b9),.agg [.slice dv x28.holds.length d4,.slice dw x28.turns.length d5,.slice dx x28.spares.length d6]] i0 fa (H6 n fa.has x26 ((Ab (Ad fo) (Ab (Ab Ac Ac) (Ab (Ad fp) (Ab (Ad fq) (Ab Ac (Ab Ac (Ab Ac Ac))))))):rep fz x26 _) x28 ((Ab (Ad ly) (Ab (Ad lz) (Ad l0))):rep fz x28 _) ex29) fun pn ci qb hz cj cn=>?_
   replace ad:=ad.mono (XU (XU cm bn) cj)
   replace ae:=ae.mono (XU (XU cm bn) cj)
   replace af:=af.mono (XU (XU cm bn) cj)
   replace ag:=ag.mono (XU bn cj)
   replace ah:=ah.mono (XU bn cj)
   replace ai:=ai.mono (XU bn cj)
   obtain⟨_,_,rfl,⟨f,g,rfl,ak⟩,rfl⟩:=hz
   refine⟨.tup [.c (.slice f x29.1.length g),.c (.int .i64 x29.2)],rfl,fun mq (i1:Kn 147 [(d,0),(e,0)] [(29,.tup [.c (.slice f x29.1.length g),.c (.int .i64 x29.2)]),tA 28 [.slice dv x28.holds.length d4,.slice dw x28.turns.length d5,.slice dx x28.spares.length d6],tA 26 (Se b1 x26 b7 b2 b8 b3 b9),tA 27 (DU u a z x aa y ab),tA 25 (Db i r_ m k p l q),tP 4 1 0,tP 3 0 0,tI 2 stop] mq)=>hK _ _ cn.plOk ?_⟩
   refine Dr [5,6,7,8,9] [9,8,7,6,5,4,3,1,2,0] ((tI 8 x29.2)::(B9 f x29 g stop)) i1 cn fun oa i2=>?_
   refine A3 (by kernel_rfl) (XT (Am (by kernel_rfl) ?_))
   replace cn:=cn.drew
   refine An [] [(d,0),(e,0)] [⟨Db i r_ m k p l q,some 28⟩,⟨DU u a z x aa y ab,some 50⟩] ?_
   refine Dr [0,2,4] [4,2,0] (KQ stop u a z x aa y ab i r_ m k p l q x29 f g) i2 cn fun mr i3=>?_
   obtain⟨x34,ex34,H⟩:=H
   obtain⟨x36,ex36,H⟩:=H
   obtain⟨hv,hx,H⟩:=S9 (F:=CF n x34 x36 stop) H
   have f4:Kn 147 [(d,0),(e,0),(0,0)] (KQ stop u a z x aa y ab i r_ m k p l q x29 f g) mr:=i3.push (0,0) (by kernel_rfl)
   have fb:=cn.addPlc (b:=0) (o:=0) (cs:=[]) (fun j c hj=>by simp at hj) rfl (by kernel_rfl) (by kernel_rfl)
   refine Ck (e':=[(d,0),(e,0),(0,0)]) (pl':=[⟨Db i r_ m k p l q,some 28⟩,⟨DU u a z x aa y ab,some 50⟩,⟨[],none⟩]) (fun _ hp=>hp.pop (Nat.le_of_eq rfl) (by kernel_rfl)) ?_
   refine Bb (fun W=>∀ (x38:Ay×Int),∀ (ac:Nat),∀ (al:Option Addr),∀ (ar:Nat),∀ (am:Option Addr),∀ (au:Nat),∀ (an:Option Addr),∀ (av:Nat),∀ a' w',(∃ (ft:Array Value)(bu:Ae),a' = ⟨ft,[]⟩∧Kn 147 [(d,0),(e,0),(ac,0)] ((tP 9 2 0)::(tI 40 x38.2)::(tA 39 (Mg al x38 ar am au an av))::(tI 8 x29.2)::(B9 f x29 g stop)) ft∧Ah ⟨w,h,A4⟩ bu [(d,0),(e,0),(ac,0)] (GV i r_ m k p l q u a z x aa y ab) [] w'∧Ae.le ci bu∧hv x38∧A8 bu al ar x38.1.tm∧A8 bu am au x38.1.turns∧A8 bu an av x38.1.legs)→W [(d,0),(e,0),(ac,0)] (GV i r_ m k p l q u a z x aa y ab) [8,7,6,5,3,1,9,4,2,0] a' w') ?_ (fun g7=>?_)
   ·
    intro x38 ac al ar am au an av
    rintro _ qc ⟨ft,bu,rfl,i4,lp,cb,s,az,a0,a1⟩
    replace ad:=ad.mono cb
    replace ae:=ae.mono cb
    replace af:=af.mono cb
    replace ag:=ag.mono cb
    replace ah:=ah.mono cb
    replace ai:=ai.mono cb
    refine Cv 10 rfl (by kernel_rfl) (by decide) (rfl) (by kernel_rfl) fun K hK=>?_
    refine EY 2 0 (.agg (Mg al x38 ar am au an av)) (Mg al x38 ar am au an av) i4 lp fun qd i5 ed=>hK _ _ ?_
    refine An [] [(d,0),(e,0),(ac,0)] [⟨Db i r_ m k p l q,some 28⟩,⟨DU u a z x aa y ab,some 50⟩,⟨Mg al x38 ar am au an av,some 76⟩] ?_
    refine Dr [11] [11,10,8,7,6,5,3,1,9,4,2,0] ((tI 10 x38.2)::(tP 9 2 0)::(tI 8 x29.2)::(B9 f x29 g stop)) i5 ed fun ob i6=>?_
    refine A3 (by kernel_rfl) ?_
    subst hx
    revert s
    intro s
    refine XT (XT (Aa (Rk 0 2 ((tA 42 (DU u a z x aa y ab))::(tA 41 (Db i r_ m k p l q))::(tI 10 x38.2)::(tP 9 2 0)::(tI 8 x29.2)::(B9 f x29 g stop)) i6 ed fun oc i7=>?_)))
    obtain⟨x43,ex43,s⟩:=s
    refine wl fun K hK=>?_
    refine wc [.agg (Db i r_ m k p l q),.agg (DU u a z x aa y ab)] i7 ed (OI n ed.has r_ ((Ab (Ad ad) (Ab (Ab Ac Ac) (Ab (Ad ae) (Ab (Ad af) (Ab Ac (Ab Ac (Ab Ac Ac))))))):rep bu r_ _) a ((Ab (Ad ag) (Ab (Ad ah) (Ad ai))):rep bu a _) ex43) fun po ip qe h0 bg aj=>?_
    replace ad:=ad.mono bg
    replace ae:=ae.mono bg
    replace af:=af.mono bg
    replace ag:=ag.mono bg
    replace ah:=ah.mono bg
    replace ai:=ai.mono bg
    replace ak:=ak.mono (XU cb bg)
    replace az:=az.mono bg
    replace a0:=a0.mono bg
    replace a1:=a1.mono bg
    obtain rfl:=h0
    refine⟨.one (.c (.int .i64 x43)),rfl,fun ms (i8:Kn 147 [(d,0),(e,0),(ac,0)] ((tI 43 x43)::(tA 42 (DU u a z x aa y ab))::(tA 41 (Db i r_ m k p l q))::(tI 10 x38.2)::(tP 9 2 0)::(tI 8 x29.2)::(B9 f x29 g stop)) ms)=>hK _ _ ?_⟩
    refine Rk 3 1 ((tI 11 x43)::(tI 10 x38.2)::(tP 9 2 0)::(tI 8 x29.2)::(B9 f x29 g stop)) i8 aj fun od i9=>?_
    refine wf (XT (Aa (Rk 0 2 ((tB 45 (x43 != 0))::(tI 11 x43)::(tI 10 x38.2)::(tP 9 2 0)::(tI 8 x29.2)::(B9 f x29 g stop)) i9 aj fun oe e4=>?_)))
    refine wf (wC ((x43 != 0)) e4 (fun ey=>?_) (fun ey=>?_))
    ·
     rw [ey,XW] at s
     refine XT (Aa (Rk 0 4 [tB 49 (x29.2 == x43),tI 11 x43,tI 10 x38.2,tP 9 2 0,tS 7 f x29.1.length g] e4 aj fun hc f5=>?_))
     rcases Bool.eq_false_or_eq_true ((x29.2 == x43)) with df | df
     ·
      rw [df,XW] at s
      have ja:Kn 147 [(d,0),(e,0),(ac,0)] [tB 49 true,tI 11 x43,tI 10 x38.2,tP 9 2 0,tS 7 f x29.1.length g] hc:=(f5.setB 49 true (by rfl) df).kp
      refine Rk 4 5 [tB 54 (x38.2 == x43),tP 9 2 0,tS 7 f x29.1.length g] ja aj fun hd f6=>?_
      rcases Bool.eq_false_or_eq_true ((x38.2 == x43)) with dg | dg
      ·
       rw [dg,XW] at s
       have jb:Kn 147 [(d,0),(e,0),(ac,0)] [tB 54 true,tP 9 2 0,tS 7 f x29.1.length g] hd:=(f6.setB 54 true (by rfl) dg).kp
       refine Rk 9 17 [tB 71 ((IntKind.i64.wrap ((IntKind.i64.wrap ((IntKind.i64.wrap (((x29.1.length:Nat):Int)+((x38.1.tm.length:Nat):Int)))+((x38.1.turns.length:Nat):Int)))+((x38.1.legs.length:Nat):Int))) == 0)] jb aj fun he f7=>?_
       rcases Bool.eq_false_or_eq_true (((IntKind.i64.wrap ((IntKind.i64.wrap ((IntKind.i64.wrap (((x29.1.length:Nat):Int)+((x38.1.tm.length:Nat):Int)))+((x38.1.turns.length:Nat):Int)))+((x38.1.legs.length:Nat):Int))) == 0)) with dh | dh
       ·
        rw [dh,XW] at s
        have f8:Kn 147 [(d,0),(e,0),(ac,0)] [tB 71 true] he:=(f7.setB 71 true (by rfl) dh).kp
        obtain⟨x72,ex72,s⟩:=s
        refine AN _ rfl (Aj f8 (by kernel_rfl)) fun K hK=>?_
        refine wc [] f8 aj (Fp n aj.has  ex72) fun pp nu qf h1 n5 gs=>?_
        obtain rfl:=h1
        refine⟨.one (.c (.bool x72)),rfl,fun mt (jc:Kn 147 [(d,0),(e,0),(ac,0)] [tB 72 x72,tB 71 true] mt)=>hK _ _ ?_⟩
        refine Rk 27 2 [tB 6 x72] jc gs fun og jd=>?_
        refine wf (wp_ret ?_)
        exact rt (.one (.c (.bool x72))) jd gs ⟨_,s,rfl⟩
       ·
        rw [dh,XV] at s
        have je:Kn 147 [(d,0),(e,0),(ac,0)] [tB 71 false] he:=(f7.setB 71 false (by rfl) dh).kp
        refine Rk 26 3 [tB 6 false] je aj fun oh jf=>?_
        refine wf (wp_ret ?_)
        exact rt (.one (.c (.bool false))) jf aj ⟨_,s,rfl⟩
      ·
       rw [dg,XV] at s
       have jg:Kn 147 [(d,0),(e,0),(ac,0)] [tB 54 false,tP 9 2 0,tS 7 f x29.1.length g] hd:=(f6.setB 54 false (by rfl) dg).kp
       refine Rk 9 20 [tB 6 false] jg aj fun oi jh=>?_
       refine wf (wp_ret ?_)
       exact rt (.one (.c (.bool false))) jh aj ⟨_,s,rfl⟩
     ·
      rw [df,XV] at s
      have ji:Kn 147 [(d,0),(e,0),(ac,0)] [tB 49 false,tI 11 x43,tI 10 x38.2,tP 9 2 0,tS 7 f x29.1.length g] hc:=(f5.setB 49 false (by rfl) df).kp
      refine Rk 4 25 [tB 6 false] ji aj fun oj jj=>?_
      refine wf (wp_ret ?_)
      exact rt (.one (.c (.bool false))) jj aj ⟨_,s,rfl⟩
    ·
     rw [ey,XV] at s
     refine wp_skip (XT (XT (Aa (Rk 0 3 ((tB 76 (x29.2 != 0))::(tI 10 x38.2)::(tP 9 2 0)::(B9 f x29 g stop)) e4 aj fun hf f9=>?_))))
     rcases Bool.eq_false_or_eq_true ((x29.2 != 0)) with di | di
     ·
      rw [di,XW] at s
      have jk:Kn 147 [(d,0),(e,0),(ac,0)] ((tB 76 true)::(tI 10 x38.2)::(tP 9 2 0)::(B9 f x29 g stop)) hf:=(f9.setB 76 true (by rfl) di).kp
      refine Rk 3 6 ((tB 82 true)::(tI 10 x38.2)::(tP 9 2 0)::(B9 f x29 g stop)) jk aj fun ok ga=>?_
      refine wf (wC true ga (fun hb=>?_) (fun hb=>?_))
      rotate_left
      ·
       cases hb
      refine XT (Aa (Rk 0 1 [tB 6 false] ga aj fun ol jl=>?_))
      refine wf (wp_ret ?_)
      exact rt (.one (.c (.bool false))) jl aj ⟨_,s,rfl⟩
     ·
      rw [di,XV] at s
      have jm:Kn 147 [(d,0),(e,0),(ac,0)] ((tB 76 false)::(tI 10 x38.2)::(tP 9 2 0)::(B9 f x29 g stop)) hf:=(f9.setB 76 false (by rfl) di).kp
      refine Rk 3 3 ((tA 79 (Db i r_ m k p l q))::(tI 78 ((x29.1.length:Nat):Int))::(tB 76 false)::(tI 10 x38.2)::(tP 9 2 0)::(B9 f x29 g stop)) jm aj fun om gb=>?_
      obtain⟨x80,ex80,s⟩:=s
      refine AN _ rfl (Aj gb (by kernel_rfl)) fun K hK=>?_
      refine wc [.agg (Db i r_ m k p l q)] gb aj (Fk n aj.has r_ ((Ab (Ad ad) (Ab (Ab Ac Ac) (Ab (Ad ae) (Ab (Ad af) (Ab Ac (Ab Ac (Ab Ac Ac))))))):rep ip r_ _) ex80) fun pq f0 qh h2 bh dr=>?_
      replace ad:=ad.mono bh
      replace ae:=ae.mono bh
      replace af:=af.mono bh
      replace ag:=ag.mono bh
      replace ah:=ah.mono bh
      replace ai:=ai.mono bh
      replace ak:=ak.mono bh
      replace az:=az.mono bh
      replace a0:=a0.mono bh
      replace a1:=a1.mono bh
      obtain rfl:=h2
      refine⟨.one (.c (.int .i64 x80)),rfl,fun mv (jo:Kn 147 [(d,0),(e,0),(ac,0)] ((tI 80 x80)::(tA 79 (Db i r_ m k p l q))::(tI 78 ((x29.1.length:Nat):Int))::(tB 76 false)::(tI 10 x38.2)::(tP 9 2 0)::(B9 f x29 g stop)) mv)=>hK _ _ ?_⟩
      refine Rk 7 2 ((tB 82 (((x29.1.length:Nat):Int) != x80))::(tI 10 x38.2)::(tP 9 2 0)::(B9 f x29 g stop)) jo dr fun oo e5=>?_
      refine wf (wC ((((x29.1.length:Nat):Int) != x80)) e5 (fun ez=>?_) (fun ez=>?_))
      ·
       rw [ez,XW] at s
       refine XT (Aa (Rk 0 1 [tB 6 false] e5 dr fun op jp=>?_))
       refine wf (wp_ret ?_)
       exact rt (.one (.c (.bool false))) jp dr ⟨_,s,rfl⟩
      ·
       rw [ez,XV] at s
       refine wp_skip (XT (XT (Aa (Rk 0 1 ((tI 12 0)::(tI 10 x38.2)::(tP 9 2 0)::(B9 f x29 g stop)) e5 dr fun oq jq=>?_))))
       refine wf ?_
       obtain⟨fy,hw,s⟩:=To (G:=Bq n r_ a Q x29 0) s
       refine Az (fun a' w'=>∃ (ha:Unit)(fu:Array Value)(ea:Ae),a' = ⟨fu,[]⟩∧Kn 147 [(d,0),(e,0),(ac,0)] ((tI 10 x38.2)::(tP 9 2 0)::(B9 f x29 g stop)) fu∧Ah ⟨w,h,A4⟩ ea [(d,0),(e,0),(ac,0)] [⟨Db i r_ m k p l q,some 28⟩,⟨DU u a z x aa y ab,some 50⟩,⟨Mg al x38 ar am au an av,some 76⟩] [] w'∧Ae.le f0 ea∧fy ha) ?_ ?_
       ·
        refine wp_block ?_
        refine Ar (fun mo a' w'=>∃ (x_v10:Int)(fv:Array Value)(de:Ae),a' = ⟨fv,[]⟩∧Kn 147 [(d,0),(e,0),(ac,0)] ((tI 12 x_v10)::(tI 10 x38.2)::(tP 9 2 0)::(B9 f x29 g stop)) fv∧Ah ⟨w,h,A4⟩ de [(d,0),(e,0),(ac,0)] [⟨Db i r_ m k p l q,some 28⟩,⟨DU u a z x aa y ab,some 50⟩,⟨Mg al x38 ar am au an av,some 76⟩] [] w'∧Ae.le f0 de∧Bq mo r_ a Q x29 x_v10 fy) n ?_ ?_
        ·
         exact XY 0 ⟨_,_,rfl,jq.kp,dr,Ae.le_refl _,s⟩
        ·
         rintro eh _ qi ⟨x_v10,fv,de,rfl,jr,cc,a5,a2⟩
         obtain _ | eh:=eh
         ·
          rw [Bq] at a2; exact a2.elim
         rw [Bq] at a2
         replace ad:=ad.mono a5
         replace ae:=ae.mono a5
         replace af:=af.mono a5
         replace ag:=ag.mono a5
         replace ah:=ah.mono a5
         replace ai:=ai.mono a5
         replace ak:=ak.mono a5
         replace az:=az.mono a5
         replace a0:=a0.mono a5
         replace a1:=a1.mono a5
         refine XT (XT (Aa (Rk 0 4 ((tB 86 (decide (x_v10<((x29.1.length:Nat):Int))))::(tI 12 x_v10)::(tI 10 x38.2)::(tP 9 2 0)::(B9 f x29 g stop)) jr cc fun os e6=>?_)))
         refine wf (wC (decide (x_v10<((x29.1.length:Nat):Int))) e6 (fun e0=>?_) (fun e0=>?_))
         ·
          rw [e0,XW] at a2
          refine wp_skip (XT (wp_block (XT (Am (by kernel_rfl) ?_))))
          replace cc:=cc.drew
          refine An [] [(d,0),(e,0),(ac,0)] [⟨Db i r_ m k p l q,some 28⟩,⟨DU u a z x aa y ab,some 50⟩,⟨Mg al x38 ar am au an av,some 76⟩] ?_
          refine Dr [0,1] [1,0] ((tI 90 x_v10)::(tS 89 f x29.1.length g)::(tI 12 x_v10)::(tI 10 x38.2)::(tP 9 2 0)::(B9 f x29 g stop)) e6 cc fun ot js=>?_
          obtain⟨x91,ex91,a2⟩:=a2
          obtain⟨lu,lw,mm⟩:=Ai ex91
          obtain⟨eo,fs,ns,iw,mj,iy⟩:=ak.get (by decide) mm
          obtain rfl:=mj
          have fc:=cc.addPlc (b:=eo) (o:=fs+(x_v10:Int).toNat*1) (cs:=[.int .i64 x91]) (fun j c hj=>iy j _ (Ak hj)) rfl (by kernel_rfl) (by kernel_rfl)
          refine Au 2 (x_v10) [.int .i64 x91] (fun _ _ _ _ _ h=>h) rfl rfl (rfl) rfl (by decide) (by kernel_rfl) (by kernel_rfl) js cc.plOk (by rfl) (by rfl) (by rfl) iw (by rfl) lu lw (by kernel_rfl) fun mx (jt:Kn 147 [(d,0),(e,0),(ac,0),(eo,fs+(x_v10:Int).toNat*1)] ((tP 91 3 0)::(tI 90 x_v10)::(tS 89 f x29.1.length g)::(tI 12 x_v10)::(tI 10 x38.2)::(tP 9 2 0)::(B9 f x29 g stop)) mx)=>?_
          refine Dr [3,4,5,6] (dn 6) ((tI 95 x_v10)::(tA 94 (DU u a z x aa y ab))::(tA 93 (Db i r_ m k p l q))::(tI 92 x91)::(tI 12 x_v10)::(tI 10 x38.2)::(tP 9 2 0)::(B9 f x29 g stop)) jt fc fun ou ju=>?_
          obtain⟨x96,ex96,a2⟩:=a2
          refine Dl 7 fun K hK=>?_
          refine wc [.agg (Db i r_ m k p l q),.agg (DU u a z x aa y ab),.c (.int .i64 x_v10)] ju fc (OO eh fc.has r_ ((Ab (Ad ad) (Ab (Ab Ac Ac) (Ab (Ad ae) (Ab (Ad af) (Ab Ac (Ab Ac (Ab Ac Ac))))))):rep de r_ _) a ((Ab (Ad ag) (Ab (Ad ah) (Ad ai))):rep de a _) x_v10 ex96) fun pr nv qk h3 lj co=>?_
          obtain rfl:=h3
          refine⟨.one (.c (.int .i64 x96)),rfl,fun my (jw:Kn 147 [(d,0),(e,0),(ac,0),(eo,fs+(x_v10:Int).toNat*1)] ((tI 96 x96)::(tI 95 x_v10)::(tA 94 (DU u a z x aa y ab))::(tA 93 (Db i r_ m k p l q))::(tI 92 x91)::(tI 12 x_v10)::(tI 10 x38.2)::(tP 9 2 0)::(B9 f x29 g stop)) my)=>hK _ _ co.plOk ?_⟩
          refine Dr [8] (dn 8) ((tB 97 (x91 != x96))::(tI 12 x_v10)::(tI 10 x38.2)::(tP 9 2 0)::(B9 f x29 g stop)) jw co fun ov e7=>?_
          refine A3 (by kernel_rfl) (wC ((x91 != x96)) e7 (fun e1=>?_) (fun e1=>?_))
          ·
           rw [e1,XW] at a2
           refine XT (Aa (Rk 0 1 [tB 6 false] e7 co fun ow jx=>?_))
           refine wf (wp_ret ?_)
           exact rt (.one (.c (.bool false))) jx co ⟨_,a2,rfl⟩
          ·
           rw [e1,XV] at a2
           refine wp_skip (Aa (Rk 0 3 ((tI 12 (IntKind.i64.wrap (x_v10+1)))::(tI 10 x38.2)::(tP 9 2 0)::(B9 f x29 g stop)) e7 co fun ox jy=>?_))
           refine wf ?_
           exact XY eh ⟨Nat.lt_succ_self _,XY (IntKind.i64.wrap (x_v10+1)) ⟨_,_,rfl,(jy.keep [12,10,9,7,4,3,2] (by rfl)).cut 3 (by kernel_rfl),co.cutPl 3 (by kernel_rfl),XU a5 lj,a2⟩⟩
         ·
          rw [e0,XV] at a2
          refine wp_exit ?_
          exact XY () ⟨_,_,rfl,e6.kp,cc,a5,a2⟩
       ·
        rintro _ ql ⟨ha,fu,ea,rfl,jz,fd,bi,s⟩
        rw [hw] at s
        replace ad:=ad.mono bi
        replace ae:=ae.mono bi
        replace af:=af.mono bi
        refine XT (XT (Aa (Rk 0 2 ((tA 99 (Db i r_ m k p l q))::(tI 98 stop)::(tI 10 x38.2)::(tP 9 2 0)::(B9 f x29 g stop)) jz fd fun oy j0=>?_)))
        obtain⟨x100,ex100,s⟩:=s
        refine wl fun K hK=>?_
        refine wc [.agg (Db i r_ m k p l q)] j0 fd (Fk n fd.has r_ ((Ab (Ad ad) (Ab (Ab Ac Ac) (Ab (Ad ae) (Ab (Ad af) (Ab Ac (Ab Ac (Ab Ac Ac))))))):rep ea r_ _) ex100) fun ps nw qm h4 bj fe=>?_
        obtain rfl:=h4
        refine⟨.one (.c (.int .i64 x100)),rfl,fun mz (j1:Kn 147 [(d,0),(e,0),(ac,0)] ((tI 100 x100)::(tA 99 (Db i r_ m k p l q))::(tI 98 stop)::(tI 10 x38.2)::(tP 9 2 0)::(B9 f x29 g stop)) mz)=>hK _ _ ?_⟩
        refine Rk 3 1 ((tI 101 (IntKind.i64.wrap (x100-1)))::(tI 98 stop)::(tI 10 x38.2)::(tP 9 2 0)::(B9 f x29 g stop)) j1 fe fun o0 j2=>?_
        obtain⟨x102,ex102,s⟩:=s
        refine wl fun K hK=>?_
        refine wc [.c (.int .i64 stop),.c (.int .i64 0),.c (.int .i64 (IntKind.i64.wrap (x100-1)))] j2 fe (C2 n fe.has stop 0 (IntKind.i64.wrap (x100-1)) ex102) fun pt iq qn h5 bk a8=>?_
        replace ad:=ad.mono (XU bj bk)
        replace ae:=ae.mono (XU bj bk)
        replace af:=af.mono (XU bj bk)
        replace ag:=ag.mono (XU (XU bi bj) bk)
        replace ah:=ah.mono (XU (XU bi bj) bk)
        replace ai:=ai.mono (XU (XU bi bj) bk)
        replace ak:=ak.mono (XU (XU bi bj) bk)
        replace az:=az.mono (XU (XU bi bj) bk)
        replace a0:=a0.mono (XU (XU bi bj) bk)
        replace a1:=a1.mono (XU (XU bi bj) bk)
        obtain rfl:=h5
        refine⟨.one (.c (.bool x102)),rfl,fun m0 (j4:Kn 147 [(d,0),(e,0),(ac,0)] ((tB 102 x102)::(tI 101 (IntKind.i64.wrap (x100-1)))::(tI 98 stop)::(tI 10 x38.2)::(tP 9 2 0)::(B9 f x29 g stop)) m0)=>hK _ _ ?_⟩
        refine Rk 5 1 ((tB 103 (!x102))::(tI 10 x38.2)::(tP 9 2 0)::(B9 f x29 g stop)) j4 a8 fun o1 e8=>?_
        refine wf (wC ((!x102)) e8 (fun e2=>?_) (fun e2=>?_))
        ·
         rw [e2,XW] at s
         refine XT (Aa (Rk 0 3 [tB 106 (x38.2 == 2),tP 9 2 0] e8 a8 fun hg gc=>?_))
         rcases Bool.eq_false_or_eq_true ((x38.2 == 2)) with dj | dj
         ·
          rw [dj,XW] at s
          have j5:Kn 147 [(d,0),(e,0),(ac,0)] [tB 106 true,tP 9 2 0] hg:=(gc.setB 106 true (by rfl) dj).kp
          refine Rk 3 14 [tB 120 ((IntKind.i64.wrap ((IntKind.i64.wrap (((x38.1.tm.length:Nat):Int)+((x38.1.turns.length:Nat):Int)))+((x38.1.legs.length:Nat):Int))) == 0)] j5 a8 fun hl gd=>?_
          rcases Bool.eq_false_or_eq_true (((IntKind.i64.wrap ((IntKind.i64.wrap (((x38.1.tm.length:Nat):Int)+((x38.1.turns.length:Nat):Int)))+((x38.1.legs.length:Nat):Int))) == 0)) with dk | dk
          ·
           rw [dk,XW] at s
           have gf:Kn 147 [(d,0),(e,0),(ac,0)] [tB 120 true] hl:=(gd.setB 120 true (by rfl) dk).kp
           obtain⟨x121,ex121,s⟩:=s
           refine AN _ rfl (Aj gf (by kernel_rfl)) fun K hK=>?_
           refine wc [] gf a8 (Fp n a8.has  ex121) fun pu nx qo h6 n6 gu=>?_
           obtain rfl:=h6
           refine⟨.one (.c (.bool x121)),rfl,fun m1 (j7:Kn 147 [(d,0),(e,0),(ac,0)] [tB 121 x121,tB 120 true] m1)=>hK _ _ ?_⟩
           refine Rk 18 2 [tB 6 x121] j7 gu fun o3 j8=>?_
           refine wf (wp_ret ?_)
           exact rt (.one (.c (.bool x121))) j8 gu ⟨_,s,rfl⟩
          ·
           rw [dk,XV] at s
           have j9:Kn 147 [(d,0),(e,0),(ac,0)] [tB 120 false] hl:=(gd.setB 120 false (by rfl) dk).kp
           refine Rk 17 3 [tB 6 false] j9 a8 fun o4 ka=>?_
           refine wf (wp_ret ?_)
           exact rt (.one (.c (.bool false))) ka a8 ⟨_,s,rfl⟩
         ·
          rw [dj,XV] at s
          have kb:Kn 147 [(d,0),(e,0),(ac,0)] [tB 106 false,tP 9 2 0] hg:=(gc.setB 106 false (by rfl) dj).kp
          refine Rk 3 17 [tB 6 false] kb a8 fun o5 kc=>?_
          refine wf (wp_ret ?_)
          exact rt (.one (.c (.bool false))) kc a8 ⟨_,s,rfl⟩
        ·
         rw [e2,XV] at s
         refine wp_skip (XT (Aa (Rk 0 1 ((tA 123 (Mg al x38 ar am au an av))::(tI 10 x38.2)::(B9 f x29 g stop)) e8 a8 fun o6 kd=>?_)))
         obtain⟨x124,ex124,s⟩:=s
         refine wl fun K hK=>?_
         refine wc [.agg (Mg al x38 ar am au an av)] kd a8 (PK n a8.has x38.1 ((Ab (Ad az) (Ab (Ad a0) (Ad a1))):rep iq x38.1 _) ex124) fun pw f1 qp h7 bl lr=>?_
         replace ad:=ad.mono bl
         replace ae:=ae.mono bl
         replace af:=af.mono bl
         replace ag:=ag.mono bl
         replace ah:=ah.mono bl
         replace ai:=ai.mono bl
         replace ak:=ak.mono bl
         replace az:=az.mono bl
         replace a0:=a0.mono bl
         replace a1:=a1.mono bl
         obtain⟨_,rfl,⟨_,_,rfl,⟨ao,aw,rfl,cq⟩,⟨_,_,rfl,⟨ap,ax,rfl,cr⟩,⟨aq,ay,rfl,ct⟩⟩⟩⟩:=h7
         refine⟨.one (.agg (KP ao x124 aw ap ax aq ay)),rfl,fun m2 (ke:Kn 147 [(d,0),(e,0),(ac,0)] ((tA 124 (KP ao x124 aw ap ax aq ay))::(tA 123 (Mg al x38 ar am au an av))::(tI 10 x38.2)::(B9 f x29 g stop)) m2)=>hK _ _ ?_⟩
         refine wl fun K hK=>?_
         refine wa OP ke lr fun a3 hn qr (kf:Kn 147 [(d,0),(e,0),(ac,0),(a3,0)] ((tP 13 3 0)::(tA 124 (KP ao x124 aw ap ax aq ay))::(tA 123 (Mg al x38 ar am au an av))::(tI 10 x38.2)::(B9 f x29 g stop)) hn) ls=>hK _ _ ?_
         refine wl fun K hK=>?_
         refine EY 3 0 (.agg (KP ao x124 aw ap ax aq ay)) (KP ao x124 aw ap ax aq ay) kf ls fun qs kg bv=>hK _ _ ?_
         have kh:Kn 147 [(d,0),(e,0),(ac,0),(a3,0)] ((tP 13 3 0)::(tI 10 x38.2)::(B9 f x29 g stop)) hn:=kg.kp
         refine wf (XT (Am (by kernel_rfl) ?_))
         replace bv:=bv.drew
         refine An [] [(d,0),(e,0),(ac,0),(a3,0)] [⟨Db i r_ m k p l q,some 28⟩,⟨DU u a z x aa y ab,some 50⟩,⟨Mg al x38 ar am au an av,some 76⟩,⟨KP ao x124 aw ap ax aq ay,some 75⟩] ?_
         refine Dr [0,1,2] [2,1,0] ((tB 127 (x38.2 == 0))::(tP 13 3 0)::(B9 f x29 g stop)) kh bv fun ho gg=>?_
         rcases Bool.eq_false_or_eq_true ((x38.2 == 0)) with dl | dl
         ·
          rw [dl,XW] at s
          have ki:Kn 147 [(d,0),(e,0),(ac,0),(a3,0)] ((tB 127 true)::(tP 13 3 0)::(B9 f x29 g stop)) ho:=(gg.setB 127 true (by rfl) dl).kp
          refine Dr [3,4] (dn 4) ((tA 129 (KP ao x124 aw ap ax aq ay))::(tA 128 (Db i r_ m k p l q))::(tB 127 true)::(tP 13 3 0)::(B9 f x29 g stop)) ki bv fun o7 gh=>?_
          obtain⟨x130,ex130,s⟩:=s
          refine EB 5 rfl (by kernel_rfl) (by decide) (Aj gh (by kernel_rfl)) fun K hK=>?_
          refine wc [.agg (Db i r_ m k p l q),.agg (KP ao x124 aw ap ax aq ay)] gh bv (PP n bv.has r_ ((Ab (Ad ad) (Ab (Ab Ac Ac) (Ab (Ad ae) (Ab (Ad af) (Ab Ac (Ab Ac (Ab Ac Ac))))))):rep f1 r_ _) x124 ((Ab (Ad cq) (Ab (Ad cr) (Ad ct))):rep f1 x124 _) ex130) fun px ew qt h9 a4 cd=>?_
          replace ad:=ad.mono a4
          replace ae:=ae.mono a4
          replace af:=af.mono a4
          replace ag:=ag.mono a4
          replace ah:=ah.mono a4
          replace ai:=ai.mono a4
          replace ak:=ak.mono a4
          replace az:=az.mono a4
          replace a0:=a0.mono a4
          replace a1:=a1.mono a4
          replace cq:=cq.mono a4
          replace cr:=cr.mono a4
          replace ct:=ct.mono a4
          obtain rfl:=h9
          refine⟨.one (.c (.bool x130)),rfl,fun m3 (kj:Kn 147 [(d,0),(e,0),(ac,0),(a3,0)] ((tB 130 x130)::(tA 129 (KP ao x124 aw ap ax aq ay))::(tA 128 (Db i r_ m k p l q))::(tB 127 true)::(tP 13 3 0)::(B9 f x29 g stop)) m3)=>hK _ _ cd.plOk ?_⟩
          refine Dr [6,7] (dn 7) ((tB 132 x130)::(tP 13 3 0)::(B9 f x29 g stop)) kj cd fun hq gi=>?_
          rcases Bool.eq_false_or_eq_true (x130) with dm | dm
          ·
           rw [dm,XW] at s
           have kk:Kn 147 [(d,0),(e,0),(ac,0),(a3,0)] ((tB 132 true)::(tP 13 3 0)::(B9 f x29 g stop)) hq:=(gi.setB 132 true (by rfl) dm).kp
           refine Dr [8,9,10,11,13,14] [14,13,11,10,9,8,7,6,5,4,3,2,1,0] [tI 139 stop,tS 138 f x29.1.length g,tI 136 stop,tA 135 (KP ao x124 aw ap ax aq ay),tA 134 (DU u a z x aa y ab),tA 133 (Db i r_ m k p l q),tB 132 true] kk cd fun o8 gj=>?_
           obtain⟨x140,ex140,s⟩:=s
           obtain⟨lv,lx,mn⟩:=Ai ex140
           obtain⟨cf,cu,nt,ix,ml,iz⟩:=ak.get (by decide) mn
           obtain rfl:=ml
           have ff:=cd.addPlc (b:=cf) (o:=cu+(stop:Int).toNat*1) (cs:=[.int .i64 x140]) (fun j c hj=>iz j _ (Ak hj)) rfl (by kernel_rfl) (by kernel_rfl)
           refine Au 15 (stop) [.int .i64 x140] (fun _ _ _ _ _ h=>h) rfl rfl (Aj gj (by kernel_rfl)) rfl (by decide) (by kernel_rfl) (by kernel_rfl) gj cd.plOk (by rfl) (by rfl) (by rfl) ix (by rfl) lv lx (by kernel_rfl) fun m4 (kl:Kn 147 [(d,0),(e,0),(ac,0),(a3,0),(cf,cu+(stop:Int).toNat*1)] [tP 140 4 0,tI 139 stop,tS 138 f x29.1.length g,tI 136 stop,tA 135 (KP ao x124 aw ap ax aq ay),tA 134 (DU u a z x aa y ab),tA 133 (Db i r_ m k p l q),tB 132 true] m4)=>?_
           refine Dr [16] [16,15,14,13,11,10,9,8,7,6,5,4,3,2,1,0] [tI 141 x140,tI 136 stop,tA 135 (KP ao x124 aw ap ax aq ay),tA 134 (DU u a z x aa y ab),tA 133 (Db i r_ m k p l q),tB 132 true] kl ff fun o9 gk=>?_
           obtain⟨x137,ex137,s⟩:=s
           refine EB 12 rfl (by kernel_rfl) (by decide) (Aj gk (by kernel_rfl)) fun K hK=>?_
           refine wc [.agg (Db i r_ m k p l q),.agg (DU u a z x aa y ab),.agg (KP ao x124 aw ap ax aq ay),.c (.int .i64 stop)] gk ff (Nu n ff.has r_ ((Ab (Ad ad) (Ab (Ab Ac Ac) (Ab (Ad ae) (Ab (Ad af) (Ab Ac (Ab Ac (Ab Ac Ac))))))):rep ew r_ _) a ((Ab (Ad ag) (Ab (Ad ah) (Ad ai))):rep ew a _) x124 ((Ab (Ad cq) (Ab (Ad cr) (Ad ct))):rep ew x124 _) stop ex137) fun py ny qu ia a6 cp=>?_
           replace ad:=ad.mono a6
           replace ae:=ae.mono a6
           replace af:=af.mono a6
           replace ag:=ag.mono a6
           replace ah:=ah.mono a6
           replace ai:=ai.mono a6
           replace az:=az.mono a6
           replace a0:=a0.mono a6
           replace a1:=a1.mono a6
           replace cq:=cq.mono a6
           replace cr:=cr.mono a6
           replace ct:=ct.mono a6
           obtain rfl:=ia
           refine⟨.one (.c (.int .i64 x137)),rfl,fun m6 (km:Kn 147 [(d,0),(e,0),(ac,0),(a3,0),(cf,cu+(stop:Int).toNat*1)] [tI 137 x137,tI 141 x140,tI 136 stop,tA 135 (KP ao x124 aw ap ax aq ay),tA 134 (DU u a z x aa y ab),tA 133 (Db i r_ m k p l q),tB 132 true] m6)=>hK _ _ cp.plOk ?_⟩
           refine Dr [17,18,19] [19,18,17,12,16,15,14,13,11,10,9,8,7,6,5,4,3,2,1,0] [tB 144 (x137 == x140)] km cp fun hr gl=>?_
           rcases Bool.eq_false_or_eq_true ((x137 == x140)) with dp | dp
           ·
            rw [dp,XW] at s
            have gm:Kn 147 [(d,0),(e,0),(ac,0),(a3,0),(cf,cu+(stop:Int).toNat*1)] [tB 144 true] hr:=(gl.setB 144 true (by rfl) dp).kp
            obtain⟨x145,ex145,s⟩:=s
            refine EB 20 rfl (by kernel_rfl) (by decide) (Aj gm (by kernel_rfl)) fun K hK=>?_
            refine wc [] gm cp (Fp n cp.has  ex145) fun pz nz qv ib n7 fg=>?_
            obtain rfl:=ib
            refine⟨.one (.c (.bool x145)),rfl,fun m7 (ko:Kn 147 [(d,0),(e,0),(ac,0),(a3,0),(cf,cu+(stop:Int).toNat*1)] [tB 145 x145,tB 144 true] m7)=>hK _ _ fg.plOk ?_⟩
            refine Dr [21,22] [22,21,20,19,18,17,12,16,15,14,13,11,10,9,8,7,6,5,4,3,2,1,0] [tB 6 x145] ko fg fun pa kq=>?_
            refine A3 (by kernel_rfl) (wp_ret ?_)
            exact rt (.one (.c (.bool x145))) kq fg ⟨_,s,rfl⟩
           ·
            rw [dp,XV] at s
            have kr:Kn 147 [(d,0),(e,0),(ac,0),(a3,0),(cf,cu+(stop:Int).toNat*1)] [tB 144 false] hr:=(gl.setB 144 false (by rfl) dp).kp
            refine Dr [20,21,22] [22,21,20,19,18,17,12,16,15,14,13,11,10,9,8,7,6,5,4,3,2,1,0] [tB 6 false] kr cp fun pb ks=>?_
            refine A3 (by kernel_rfl) (wp_ret ?_)
            exact rt (.one (.c (.bool false))) ks cp ⟨_,s,rfl⟩
          ·
           rw [dm,XV] at s
           have kt:Kn 147 [(d,0),(e,0),(ac,0),(a3,0)] ((tB 132 false)::(tP 13 3 0)::(B9 f x29 g stop)) hq:=(gi.setB 132 false (by rfl) dm).kp
           refine Dr [8,9,10,11,12,13,14,15,16,17,18,19,20,21,22] (dn 22) [tB 6 false] kt cd fun pc ku=>?_
           refine A3 (by kernel_rfl) (wp_ret ?_)
           exact rt (.one (.c (.bool false))) ku cd ⟨_,s,rfl⟩
         ·
          rw [dl,XV] at s
          have kv:Kn 147 [(d,0),(e,0),(ac,0),(a3,0)] ((tB 127 false)::(tP 13 3 0)::(B9 f x29 g stop)) ho:=(gg.setB 127 false (by rfl) dl).kp
          refine Dr [3,4,5,6,7,8,9,10,11,12,13,14,15,16,17,18,19,20,21,22] (dn 22) [tB 6 false] kv bv fun pd kw=>?_
          refine A3 (by kernel_rfl) (wp_ret ?_)
          exact rt (.one (.c (.bool false))) kw bv ⟨_,s,rfl⟩
   refine Bb (fun W=>∀ (cg:Nat),∀ (cv:Option Addr),∀ (c5:Nat),∀ (cw:Option Addr),∀ (c6:Nat),∀ (cx:Option Addr),∀ (c7:Nat),∀ (bx:Option Addr),∀ (b4:Nat),∀ (bz:Option Addr),∀ (b5:Nat),∀ (b0:Option Addr),∀ (b6:Nat),∀ a' w',(∃ (fw:Array Value)(bf:Ae),a' = ⟨fw,[]⟩∧Kn 147 [(d,0),(e,0),(cg,0)] ((tP 9 2 0)::(tA 36 [.slice cv x36.holds.length c5,.slice cw x36.turns.length c6,.slice cx x36.spares.length c7])::(tA 34 (Td bx x34 b4 bz b5 b0 b6))::(tI 37 stop)::(tI 8 x29.2)::(B9 f x29 g stop)) fw∧Ah ⟨w,h,A4⟩ bf [(d,0),(e,0),(cg,0)] (GV i r_ m k p l q u a z x aa y ab) [] w'∧Ae.le ci bf∧A8 bf cv c5 x36.holds∧A8 bf cw c6 x36.turns∧A8 bf cx c7 x36.spares∧A8 bf bx b4 x34.legs∧A8 bf bz b5 x34.buses∧A8 bf b0 b6 x34.spares)→W [(d,0),(e,0),(cg,0)] (GV i r_ m k p l q u a z x aa y ab) [3,1,9,4,2,0] a' w') ?_ (fun g8=>?_)
   ·
    intro cg cv c5 cw c6 cx c7 bx b4 bz b5 b0 b6
    rintro _ qw ⟨fw,bf,rfl,ky,gv,lk,l1,l2,l3,l4,l5,l6⟩
    refine Dl 5 fun K hK=>?_
    refine wc [.agg (Td bx x34 b4 bz b5 b0 b6),.agg [.slice cv x36.holds.length c5,.slice cw x36.turns.length c6,.slice cx x36.spares.length c7],.c (.int .i64 stop)] ky gv (HE n gv.has x34 ((Ab (Ad l4) (Ab (Ab Ac Ac) (Ab (Ad l5) (Ab (Ad l6) (Ab Ac (Ab Ac (Ab Ac Ac))))))):rep bf x34 _) x36 ((Ab (Ad l1) (Ab (Ad l2) (Ad l3))):rep bf x36 _) stop H) fun p0 n0 qx ic ll fh=>?_
    obtain⟨x38,ht,⟨_,_,rfl,⟨_,rfl,⟨_,_,rfl,⟨dy,d7,rfl,l7⟩,⟨_,_,rfl,⟨dz,d8,rfl,l8⟩,⟨d0,d9,rfl,l9⟩⟩⟩⟩,rfl⟩⟩:=ic
    refine⟨.tup [.agg [.slice dy x38.1.tm.length d7,.slice dz x38.1.turns.length d8,.slice d0 x38.1.legs.length d9],.c (.int .i64 x38.2)],rfl,fun m8 (kz:Kn 147 [(d,0),(e,0),(cg,0)] ((38,.tup [.agg [.slice dy x38.1.tm.length d7,.slice dz x38.1.turns.length d8,.slice d0 x38.1.legs.length d9],.c (.int .i64 x38.2)])::(tP 9 2 0)::(tA 36 [.slice cv x36.holds.length c5,.slice cw x36.turns.length c6,.slice cx x36.spares.length c7])::(tA 34 (Td bx x34 b4 bz b5 b0 b6))::(tI 37 stop)::(tI 8 x29.2)::(B9 f x29 g stop)) m8)=>hK _ _ fh.plOk ?_⟩
    refine Dr [6,7,8] [8,7,6,5,3,1,9,4,2,0] ((tI 40 x38.2)::(tA 39 [.slice dy x38.1.tm.length d7,.slice dz x38.1.turns.length d8,.slice d0 x38.1.legs.length d9])::(tP 9 2 0)::(tI 8 x29.2)::(B9 f x29 g stop)) kz fh fun pf k0=>?_
    refine A1 [8,7,6,5,3,1,9,4,2,0] (by kernel_rfl) (by rfl) (g7 x38 cg dy d7 dz d8 d0 d9 _ _ ?_)
    exact XY _ ⟨_,rfl,k0.kp,fh,XU lk ll,ht,l7,l8,l9⟩
   refine Bb (fun W=>∀ (ch:Nat),∀ (cy:Option Addr),∀ (c8:Nat),∀ (cz:Option Addr),∀ (c9:Nat),∀ (c0:Option Addr),∀ (da:Nat),∀ a' w',(∃ (fx:Array Value)(ca:Ae),a' = ⟨fx,[]⟩∧Kn 147 [(d,0),(e,0),(ch,0)] ((tP 9 2 0)::(tA 34 [.slice cy x34.legs.length c8,.int .i64 x34.turn.lo,.int .i64 x34.turn.hi,.slice cz x34.buses.length c9,.slice c0 x34.spares.length da,.int .i64 x34.unit,.int .i64 x34.gap,.int .i64 x34.fr,.int .i64 x34.to_])::(tI 37 stop)::(tA 35 (DU u a z x aa y ab))::(tI 8 x29.2)::(B9 f x29 g stop)) fx∧Ah ⟨w,h,A4⟩ ca [(d,0),(e,0),(ch,0)] (GV i r_ m k p l q u a z x aa y ab) [] w'∧Ae.le ci ca∧A8 ca cy c8 x34.legs∧A8 ca cz c9 x34.buses∧A8 ca c0 da x34.spares)→W [(d,0),(e,0),(ch,0)] (GV i r_ m k p l q u a z x aa y ab) [1,9,4,2,0] a' w') ?_ (fun g9=>?_)
   ·
    intro ch cy c8 cz c9 c0 da
    rintro _ qy ⟨fx,ca,rfl,k1,gw,eb,fl,fm,fn⟩
    replace ag:=ag.mono eb
    replace ah:=ah.mono eb
    replace ai:=ai.mono eb
    refine Dl 3 fun K hK=>?_
    refine wc [.agg (DU u a z x aa y ab)] k1 gw (IV n gw.has a ((Ab (Ad ag) (Ab (Ad ah) (Ad ai))):rep ca a _) ex36) fun p2 n2 qz ie ec gx=>?_
    replace fl:=fl.mono ec
    replace fm:=fm.mono ec
    replace fn:=fn.mono ec
    obtain⟨_,rfl,⟨_,_,rfl,⟨ei,ep,rfl,ma⟩,⟨_,_,rfl,⟨ej,er,rfl,mb⟩,⟨ek,es,rfl,mc⟩⟩⟩⟩:=ie
    refine⟨.one (.agg [.slice ei x36.holds.length ep,.slice ej x36.turns.length er,.slice ek x36.spares.length es]),rfl,fun m9 (k2:Kn 147 [(d,0),(e,0),(ch,0)] ((tA 36 [.slice ei x36.holds.length ep,.slice ej x36.turns.length er,.slice ek x36.spares.length es])::(tP 9 2 0)::(tA 34 [.slice cy x34.legs.length c8,.int .i64 x34.turn.lo,.int .i64 x34.turn.hi,.slice cz x34.buses.length c9,.slice c0 x34.spares.length da,.int .i64 x34.unit,.int .i64 x34.gap,.int .i64 x34.fr,.int .i64 x34.to_])::(tI 37 stop)::(tA 35 (DU u a z x aa y ab))::(tI 8 x29.2)::(B9 f x29 g stop)) m9)=>hK _ _ gx.plOk ?_⟩
    refine A1 [3,1,9,4,2,0] (by kernel_rfl) (by rfl) (g8 ch ei ep ej er ek es cy c8 cz c9 c0 da _ _ ?_)
    exact XY _ ⟨_,rfl,k2.kp,gx,XU eb ec,ma,mb,mc,fl,fm,fn⟩
   refine Dy 1 9 rfl rfl (by kernel_rfl) (by decide) (rfl) (rfl) (fun K hK=>?_) (fun K hK=>?_)
   ·
    refine wc [.agg (Db i r_ m k p l q)] f4 fb (Ia n fb.has r_ ((Ab (Ad ad) (Ab (Ab Ac Ac) (Ab (Ad ae) (Ab (Ad af) (Ab Ac (Ab Ac (Ab Ac Ac))))))):rep ci r_ _) ex34) fun p3 f3 q1 ih bm ef=>?_
    replace ad:=ad.mono bm
    replace ae:=ae.mono bm
    replace af:=af.mono bm
    replace ag:=ag.mono bm
    replace ah:=ah.mono bm
    replace ai:=ai.mono bm
    replace ak:=ak.mono bm
    obtain⟨_,rfl,⟨_,_,rfl,⟨a9,bc,rfl,ds⟩,⟨_,_,rfl,⟨_,_,rfl,rfl,rfl⟩,⟨_,_,rfl,⟨ba,bd,rfl,dt⟩,⟨_,_,rfl,⟨bb,be,rfl,du⟩,⟨_,_,rfl,rfl,⟨_,_,rfl,rfl,⟨_,_,rfl,rfl,rfl⟩⟩⟩⟩⟩⟩⟩⟩:=ih
    refine⟨.one (.agg (Q5 a9 x34 bc ba bd bb be)),rfl,fun na (gp:Kn 147 [(d,0),(e,0),(0,0)] ((tA 34 (Q5 a9 x34 bc ba bd bb be))::(KQ stop u a z x aa y ab i r_ m k p l q x29 f g)) na)=>hK _ _ ef.plOk ?_⟩
    refine Dy 3 9 rfl rfl (by kernel_rfl) (by decide) (rfl) (rfl) (fun K hK=>?_) (fun K hK=>?_)
    ·
     refine wc [.agg (DU u a z x aa y ab)] gp ef (IV n ef.has a ((Ab (Ad ag) (Ab (Ad ah) (Ad ai))):rep f3 a _) ex36) fun p4 ex q2 ii a7 eg=>?_
     replace ad:=ad.mono a7
     replace ae:=ae.mono a7
     replace af:=af.mono a7
     replace ag:=ag.mono a7
     replace ah:=ah.mono a7
     replace ai:=ai.mono a7
     replace ak:=ak.mono a7
     replace ds:=ds.mono a7
     replace dt:=dt.mono a7
     replace du:=du.mono a7
     obtain⟨_,rfl,⟨_,_,rfl,⟨bo,br,rfl,g4⟩,⟨_,_,rfl,⟨bp,bs,rfl,g5⟩,⟨bq,bt,rfl,g6⟩⟩⟩⟩:=ii
     refine⟨.one (.agg (Sd bo x36 br bp bs bq bt)),rfl,fun nc (gq:Kn 147 [(d,0),(e,0),(0,0)] ((tA 36 (Sd bo x36 br bp bs bq bt))::(tA 34 (Q5 a9 x34 bc ba bd bb be))::(KQ stop u a z x aa y ab i r_ m k p l q x29 f g)) nc)=>hK _ _ eg.plOk ?_⟩
     refine Dy 5 9 rfl rfl (by kernel_rfl) (by decide) (rfl) (rfl) (fun K hK=>?_) (fun K hK=>?_)
     ·
      refine wc [.agg (Q5 a9 x34 bc ba bd bb be),.agg (Sd bo x36 br bp bs bq bt),.c (.int .i64 stop)] gq eg (HE n eg.has x34 ((Ab (Ad ds) (Ab (Ab Ac Ac) (Ab (Ad dt) (Ab (Ad du) (Ab Ac (Ab Ac (Ab Ac Ac))))))):rep ex x34 _) x36 ((Ab (Ad g4) (Ab (Ad g5) (Ad g6))):rep ex x36 _) stop H) fun p5 ir q3 ij lm fi=>?_
      obtain⟨x38,hu,⟨_,_,rfl,⟨_,rfl,⟨_,_,rfl,⟨c1,db,rfl,md⟩,⟨_,_,rfl,⟨c2,dc,rfl,me⟩,⟨c3,dd,rfl,mf⟩⟩⟩⟩,rfl⟩⟩:=ij
      refine⟨.tup [.agg [.slice c1 x38.1.tm.length db,.slice c2 x38.1.turns.length dc,.slice c3 x38.1.legs.length dd],.c (.int .i64 x38.2)],rfl,fun nd (k4:Kn 147 [(d,0),(e,0),(0,0)] ((38,.tup [.agg [.slice c1 x38.1.tm.length db,.slice c2 x38.1.turns.length dc,.slice c3 x38.1.legs.length dd],.c (.int .i64 x38.2)])::(tA 36 (Sd bo x36 br bp bs bq bt))::(tA 34 (Q5 a9 x34 bc ba bd bb be))::(KQ stop u a z x aa y ab i r_ m k p l q x29 f g)) nd)=>hK _ _ fi.plOk ?_⟩
      refine Dr [6,7,8] [8,7,6,5,3,1,4,2,0] ((tI 40 x38.2)::(tA 39 [.slice c1 x38.1.tm.length db,.slice c2 x38.1.turns.length dc,.slice c3 x38.1.legs.length dd])::(tI 8 x29.2)::(B9 f x29 g stop)) k4 fi fun ph k5=>?_
      refine Dl 9 fun K hK=>?_
      refine Kd 2 OP k5 fi fun d1 nf nn (k7:Kn 147 [(d,0),(e,0),(d1,0)] ((tP 9 2 0)::(tI 40 x38.2)::(tA 39 [.slice c1 x38.1.tm.length db,.slice c2 x38.1.turns.length dc,.slice c3 x38.1.legs.length dd])::(tI 8 x29.2)::(B9 f x29 g stop)) nf) (gz:Ah ⟨w,h,A4⟩ ir [(d,0),(e,0),(d1,0)] (GV i r_ m k p l q u a z x aa y ab) [] nn)=>hK _ _ (Av.unset 2 rfl (by kernel_rfl) gz.plOk) (Ck (e':=[(d,0),(e,0),(d1,0)]) (pl':=(GV i r_ m k p l q u a z x aa y ab)) (fun _ hp=>hp.unset 2 rfl (by kernel_rfl)) ?_)
      refine A1 [8,7,6,5,3,1,9,4,2,0] (by kernel_rfl) (by rfl) (g7 x38 d1 c1 db c2 dc c3 dd _ _ ?_)
      exact XY _ ⟨_,rfl,k7.kp,gz,XU bm (XU a7 lm),hu,md,me,mf⟩
     ·
      refine Kd 2 OP gq eg fun d2 ng np (k8:Kn 147 [(d,0),(e,0),(d2,0)] ((tP 9 2 0)::(tA 36 (Sd bo x36 br bp bs bq bt))::(tA 34 (Q5 a9 x34 bc ba bd bb be))::(KQ stop u a z x aa y ab i r_ m k p l q x29 f g)) ng) (g0:Ah ⟨w,h,A4⟩ ex [(d,0),(e,0),(d2,0)] (GV i r_ m k p l q u a z x aa y ab) [] np)=>hK _ _ (Av.unset 2 rfl (by kernel_rfl) g0.plOk) (Ck (e':=[(d,0),(e,0),(d2,0)]) (pl':=(GV i r_ m k p l q u a z x aa y ab)) (fun _ hp=>hp.unset 2 rfl (by kernel_rfl)) ?_)
      refine A1 [3,1,9,4,2,0] (by kernel_rfl) (by rfl) (g8 d2 bo br bp bs bq bt a9 bc ba bd bb be _ _ ?_)
      exact XY _ ⟨_,rfl,k8.kp,g0,XU bm a7,g4,g5,g6,ds,dt,du⟩
    ·
     refine Kd 2 OP gp ef fun d3 nh nq (la:Kn 147 [(d,0),(e,0),(d3,0)] ((tP 9 2 0)::(tA 34 (Q5 a9 x34 bc ba bd bb be))::(KQ stop u a z x aa y ab i r_ m k p l q x29 f g)) nh) (g1:Ah ⟨w,h,A4⟩ f3 [(d,0),(e,0),(d3,0)] (GV i r_ m k p l q u a z x aa y ab) [] nq)=>hK _ _ (Av.unset 2 rfl (by kernel_rfl) g1.plOk) (Ck (e':=[(d,0),(e,0),(d3,0)]) (pl':=(GV i r_ m k p l q u a z x aa y ab)) (fun _ hp=>hp.unset 2 rfl (by kernel_rfl)) ?_)
     refine A1 [1,9,4,2,0] (by kernel_rfl) (by rfl) (g9 d3 a9 bc ba bd bb be _ _ ?_)
     exact XY _ ⟨_,rfl,la.kp,g1,bm,ds,dt,du⟩
   ·
    refine Kd 2 OP f4 fb fun c4 ni nr (lb:Kn 147 [(d,0),(e,0),(c4,0)] ((tP 9 2 0)::(KQ stop u a z x aa y ab i r_ m k p l q x29 f g)) ni) (fj:Ah ⟨w,h,A4⟩ ci [(d,0),(e,0),(c4,0)] (GV i r_ m k p l q u a z x aa y ab) [] nr)=>hK _ _ (Av.unset 2 rfl (by kernel_rfl) fj.plOk) (Ck (e':=[(d,0),(e,0),(c4,0)]) (pl':=(GV i r_ m k p l q u a z x aa y ab)) (fun _ hp=>hp.unset 2 rfl (by kernel_rfl)) ?_)
    refine Dl 1 fun K hK=>?_
    refine wc [.agg (Db i r_ m k p l q)] lb fj (Ia n fj.has r_ ((Ab (Ad ad) (Ab (Ab Ac Ac) (Ab (Ad ae) (Ab (Ad af) (Ab Ac (Ab Ac (Ab Ac Ac))))))):rep ci r_ _) ex34) fun p6 n3 q4 ik ln g2=>?_
    obtain⟨_,rfl,⟨_,_,rfl,⟨el,et,rfl,mg⟩,⟨_,_,rfl,⟨_,_,rfl,rfl,rfl⟩,⟨_,_,rfl,⟨em,eu,rfl,mh⟩,⟨_,_,rfl,⟨en,ev,rfl,mi⟩,⟨_,_,rfl,rfl,⟨_,_,rfl,rfl,⟨_,_,rfl,rfl,rfl⟩⟩⟩⟩⟩⟩⟩⟩:=ik
    refine⟨.one (.agg [.slice el x34.legs.length et,.int .i64 x34.turn.lo,.int .i64 x34.turn.hi,.slice em x34.buses.length eu,.slice en x34.spares.length ev,.int .i64 x34.unit,.int .i64 x34.gap,.int .i64 x34.fr,.int .i64 x34.to_]),rfl,fun nj (lc:Kn 147 [(d,0),(e,0),(c4,0)] ((tA 34 [.slice el x34.legs.length et,.int .i64 x34.turn.lo,.int .i64 x34.turn.hi,.slice em x34.buses.length eu,.slice en x34.spares.length ev,.int .i64 x34.unit,.int .i64 x34.gap,.int .i64 x34.fr,.int .i64 x34.to_])::(tP 9 2 0)::(KQ stop u a z x aa y ab i r_ m k p l q x29 f g)) nj)=>hK _ _ g2.plOk ?_⟩
    refine A1 [1,9,4,2,0] (by kernel_rfl) (by rfl) (g9 c4 el et em eu en ev _ _ ?_)
    exact XY _ ⟨_,rfl,lc.kp,g2,ln,mg,mh,mi⟩
end Go.Proofs.Ytokchpjijlebiaa
