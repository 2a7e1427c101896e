/- Each call computes its plain function. -/
import Derived.Test.YtokchpjijlebiaaProg
import Derived.Test.YtokchpjijlebiaaLQP0
import Derived.Test.YtokchpjijlebiaaLQWA
set_option linter.all false
namespace Go.Proofs.Ytokchpjijlebiaa
open Go Go.RowKit
open Rep (rep)
open KRep (kv)
open VRep (rv)
set_option maxRecDepth 100000 in
set_option maxHeartbeats 4000000 in
theorem El (n:Nat) {h:Ad} {w:World} (hh:Dk h w) (l:List Int) {a_l:Option Addr} {c_l:Nat} (hr_l:A0 h a_l c_l l) {r:List Int} (H:Fc n l=some r) :
  Calls Try.prog 29 #[.slice a_l l.length c_l] w (Dq (fun h v=>∃ a c,v=.slice a r.length c∧A0 h a c r) h w):=by
 refine enter 5 [.c (.slice a_l l.length c_l)] Try.func29 rfl rfl rfl rfl fun t hk=>?_
 have hm:=Ah.begin h w hh
 unfold Fc at H
 refine XT (Aa (Rk 0 1 [tS 0 a_l l.length c_l] hk hm fun ai y=>?_))
 refine wf (XT (Aa (Rk 0 1 [tS 3 a_l l.length c_l] y hm fun ak aa=>?_)))
 have p:Ah ⟨w,h,A5⟩ h [] [] [⟨none,0,0,3,1,[],0⟩] w:=hm.nilRow 3 1
 have s:Ag h ([]:List Int) []:=Ag.nil
 obtain⟨f,e,af,_⟩:=id hr_l
 obtain⟨x4,ex4,H⟩:=Ao H
 obtain⟨m,ab⟩:=AV ex4
 refine wl fun K hK=>?_
 refine AA 0 8 l.length _ (x4.length) _ f aa p rfl rfl (by decide) rfl (by rfl) (by kernel_rfl) (by rfl) (by rfl) (Ag.len e) (af.cell p.has e.one) e.one (by rw [m]; simp <;> omega) (by rw [m]; exact ab) (by decide) fun b d q ag ah u (x:Kn 5 [] [tS 4 b x4.length d,tS 3 a_l l.length c_l] ag) j=>?_
 have g:Ag h x4 ([]++f):=by rw [m]; exact Ag.append s e
 obtain rfl:q=0:=Nat.le_zero.1 u
 refine hK _ _ ?_
 refine Rk 2 1 [tS 2 b x4.length d] x j fun aj z=>?_
 refine wf (wp_ret ?_)
 obtain⟨o,ac,ae,k⟩:=j.settle (i:=0) rfl
 replace g:=g.mono ac
 replace k:Ah ⟨w,h,A5⟩ o [] [] [⟨b,x4.length,d,3,1,[]++f,(([]++f):List Value).length⟩] ah:=k
 have ad:A0 o b d x4:=⟨_,g,ae,j.rowCap (i:=0) rfl⟩
 obtain rfl:=XZ H
 exact rt (.one (.c (.slice b x4.length d))) z k ⟨_,_,rfl,ad⟩
abbrev T8:List SC:=[.slice none 0 0,.slice none 0 0,.slice none 0 0]
abbrev NK (b:Option Addr) (a:As) (e:Nat) (d:Option Addr) (f:Nat) (g:Option Addr) (j:Nat):List SC:=[.slice b a.holds.length e,.slice d a.turns.length f,.slice g a.spares.length j]
set_option maxRecDepth 100000 in
set_option maxHeartbeats 4000000 in
theorem GW (n:Nat) {h:Ad} {w:World} (hh:Dk h w) (a:As) {cs_a:List Value} (hx_a:rep h a cs_a) {r:As} (H:FR n a=some r) :
  Calls Try.prog 23 #[.agg cs_a.toArray] w (Dq (fun h v=>∃ cs,v=.agg cs.toArray∧rep h r cs) h w):=by
 obtain⟨_,_,rfl,⟨b,e,rfl,bb⟩,⟨_,_,rfl,⟨d,f,rfl,aj⟩,⟨g,j,rfl,ak⟩⟩⟩:=hx_a
 refine enter 13 [.agg (NK b a e d f g j)] Try.func23 rfl rfl rfl rfl fun t hk=>?_
 have hm:=Ah.begin h w hh
 unfold FR at H
 refine XT (Aa (wl fun K hK=>?_))
 refine wb (.agg (NK b a e d f g j)) hk hm fun k bf bq (az:Kn 13 [(k,0)] [tP 1 0 0,tA 0 (NK b a e d f g j)] bf) ba=>hK _ _ ?_
 refine wl fun K hK=>?_
 refine wa T8 az ba fun m ar br (a0:Kn 13 [(k,0),(m,0)] [tP 2 1 0,tP 1 0 0,tA 0 (NK b a e d f g j)] ar) x=>hK _ _ ?_
 have a1:Kn 13 [(k,0),(m,0)] [tP 2 1 0,tP 1 0 0] ar:=a0.kp
 refine wf (XT (Al (by kernel_rfl) ?_))
 replace x:=x.drew
 refine Am [] [(k,0),(m,0)] [⟨NK b a e d f g j,some 50⟩,⟨T8,some 34⟩] ?_
 refine Dr [0,1,3,4,6,7] [7,6,4,3,1,0] [tS 10 g a.spares.length j,tS 7 d a.turns.length f,tS 4 b a.holds.length e,tP 2 1 0] a1 x fun bn a2=>?_
 obtain⟨x5,ex5,H⟩:=Ao H
 refine Dl 2 fun K hK=>?_
 refine wc [.c (.slice b a.holds.length e)] a2 x (El n x.has a.holds bb ex5) fun bo bm bs av am ae=>?_
 replace aj:=aj.mono am
 obtain⟨l,o,rfl,ah⟩:=av
 refine⟨.one (.c (.slice l x5.length o)),rfl,fun bg (a3:Kn 13 [(k,0),(m,0)] [tS 5 l x5.length o,tS 10 g a.spares.length j,tS 7 d a.turns.length f,tS 4 b a.holds.length e,tP 2 1 0] bg)=>hK _ _ ae.plOk ?_⟩
 obtain⟨x8,ex8,H⟩:=Ao H
 refine Dl 5 fun K hK=>?_
 refine wc [.c (.slice d a.turns.length f)] a3 ae (El n ae.has a.turns aj ex8) fun bp aa bk aw an ao=>?_
 replace ak:=ak.mono (XU am an)
 obtain⟨p,s,rfl,ai⟩:=aw
 refine⟨.one (.c (.slice p x8.length s)),rfl,fun bh (a4:Kn 13 [(k,0),(m,0)] [tS 8 p x8.length s,tS 5 l x5.length o,tS 10 g a.spares.length j,tS 7 d a.turns.length f,tS 4 b a.holds.length e,tP 2 1 0] bh)=>hK _ _ ao.plOk ?_⟩
 have ap:Ah ⟨w,h,A5⟩ aa [(k,0),(m,0)] [⟨NK b a e d f g j,some 50⟩,⟨T8,some 34⟩] [⟨none,0,0,4,1,[],0⟩] bk:=ao.nilRow 4 1
 have ax:Ag aa ([]:List Bool) []:=Ag.nil
 obtain⟨z,y,be,_⟩:=id ak
 obtain⟨x11,ex11,H⟩:=Ao H
 obtain⟨al,a9⟩:=AV ex11
 refine Dl 8 fun K hK=>?_
 refine AA 0 1 a.spares.length _ (x11.length) _ z a4 ap rfl rfl (by decide) rfl (by rfl) (by kernel_rfl) (by rfl) (by rfl) (Ag.len y) (be.cell ap.has y.one) y.one (by rw [al]; simp <;> omega) (by rw [al]; exact a9) (by decide) fun q u au bi bt ay (a5:Kn 13 [(k,0),(m,0)] [tS 11 q x11.length u,tS 8 p x8.length s,tS 5 l x5.length o,tS 10 g a.spares.length j,tS 7 d a.turns.length f,tS 4 b a.holds.length e,tP 2 1 0] bi) af=>?_
 have ac:Ag aa x11 ([]++z):=by rw [al]; exact Ag.append ax y
 obtain rfl:au=0:=Nat.le_zero.1 ay
 refine hK _ _ af.plOk ?_
 refine Dr [9] [9,8,5,2,7,6,4,3,1,0] [tA 12 [.slice l x5.length o,.slice p x8.length s,.slice q x11.length u],tP 2 1 0] a5 af fun bj a6=>?_
 refine Cx 10 rfl (by kernel_rfl) (by decide) (rfl) (by kernel_rfl) fun K hK=>?_
 refine EA 1 0 (.agg [.slice l x5.length o,.slice p x8.length s,.slice q x11.length u]) [.slice l x5.length o,.slice p x8.length s,.slice q x11.length u] a6 af fun bl a7 aq=>hK _ _ ?_
 have a8:Kn 13 [(k,0),(m,0)] [tP 2 1 0] bj:=a7.kp
 refine EH (by kernel_rfl) (wp_ret ?_)
 obtain⟨ab,ad,bd,ag⟩:=aq.settle (i:=0) rfl
 replace ah:=ah.mono (XU an ad)
 replace ai:=ai.mono ad
 replace ac:=ac.mono ad
 replace ag:Ah ⟨w,h,A5⟩ ab [(k,0),(m,0)] [⟨NK b a e d f g j,some 50⟩,⟨[.slice l x5.length o,.slice p x8.length s,.slice q x11.length u],some 34⟩] [⟨q,x11.length,u,4,1,[]++z,(([]++z):List Value).length⟩] bl:=ag
 have bc:A0 ab q u x11:=⟨_,ac,bd,aq.rowCap (i:=0) rfl⟩
 obtain rfl:=XZ H
 exact rt (.one (.agg [.slice l x5.length o,.slice p x8.length s,.slice q x11.length u])) a8 ag ⟨_,rfl,((Ab (Ae ah) (Ab (Ae ai) (Ae bc))):rep ab ((As.mk x5 x8 x11):As) _)⟩
abbrev Mq (g:Option Addr) (a:As) (q:Nat) (l:Option Addr) (s:Nat) (x:Option Addr) (z:Nat):List SC:=[.slice g a.holds.length q,.slice l a.turns.length s,.slice x a.spares.length z]
abbrev Mr (i:Option Addr) (b:As) (m:Nat) (k:Option Addr) (p:Nat) (u:Option Addr) (y:Nat):List SC:=[.slice i b.holds.length m,.slice k b.turns.length p,.slice u b.spares.length y]
abbrev Em:TM:=[tP 3 1 0,tP 2 0 0]
set_option maxRecDepth 100000 in
set_option maxHeartbeats 4000000 in
theorem Ms (n:Nat) {h:Ad} {w:World} (hh:Dk h w) (a:As) {cs_a:List Value} (hx_a:rep h a cs_a) (b:As) {cs_b:List Value} (hx_b:rep h b cs_b) {r:Bool} (H:Hw n a b=some r) :
  Calls Try.prog 22 #[.agg cs_a.toArray,.agg cs_b.toArray] w (Dq (fun h v=>v=.bool r) h w):=by
 obtain⟨_,_,rfl,⟨g,q,rfl,ao⟩,⟨_,_,rfl,⟨l,s,rfl,ap⟩,⟨x,z,rfl,ae⟩⟩⟩:=hx_a
 obtain⟨_,_,rfl,⟨i,m,rfl,am⟩,⟨_,_,rfl,⟨k,p,rfl,an⟩,⟨u,y,rfl,ad⟩⟩⟩:=hx_b
 refine enter 47 [.agg (Mq g a q l s x z),.agg (Mr i b m k p u y)] Try.func22 rfl rfl rfl rfl fun t hk=>?_
 have hm:=Ah.begin h w hh
 unfold Hw at H
 refine XT (Aa (wl fun K hK=>?_))
 refine wb (.agg (Mq g a q l s x z)) hk hm fun d cv dm (b1:Kn 47 [(d,0)] [tP 2 0 0,tA 0 (Mq g a q l s x z),tA 1 (Mr i b m k p u y)] cv) ci=>hK _ _ ?_
 refine wl fun K hK=>?_
 refine wb (.agg (Mr i b m k p u y)) b1 ci fun e cw dp (b2:Kn 47 [(d,0),(e,0)] [tP 3 1 0,tP 2 0 0,tA 0 (Mq g a q l s x z),tA 1 (Mr i b m k p u y)] cw) ar=>hK _ _ ?_
 refine Rk 2 1 Em b2 ar fun c9 b3=>?_
 refine wf (XT (XT ?_))
 obtain⟨bi,aa,H⟩:=Ao H
 refine Aw (fun a' w'=>∃ (a7:Array Value)(ah:Ad),a' = ⟨a7,[]⟩∧Kn 47 [(d,0),(e,0)] [tP 3 1 0,tP 2 0 0,tB 28 bi] a7∧Ah ⟨w,h,A5⟩ ah [(d,0),(e,0)] [⟨Mq g a q l s x z,some 34⟩,⟨Mr i b m k p u y,some 34⟩] [] w'∧Ad.le h ah) ?_ ?_
 ·
  refine Aa (Rk 0 4 ((tS 9 i b.holds.length m)::(tS 7 g a.holds.length q)::Em) b3 ar fun da b4=>?_)
  obtain⟨x10,ex10,aa⟩:=Ao aa
  refine wl fun K hK=>?_
  refine wc [.c (.slice g a.holds.length q),.c (.slice i b.holds.length m)] b4 ar (GU n ar.has a.holds ao b.holds am ex10) fun dj c1 dq bn ab ag=>?_
  replace ao:=ao.mono ab
  replace ap:=ap.mono ab
  replace ae:=ae.mono ab
  replace am:=am.mono ab
  replace an:=an.mono ab
  replace ad:=ad.mono ab
  obtain rfl:=bn
  refine⟨.one (.c (.bool x10)),rfl,fun cx (b5:Kn 47 [(d,0),(e,0)] ((tB 10 x10)::(tS 9 i b.holds.length m)::(tS 7 g a.holds.length q)::Em) cx)=>hK _ _ ?_⟩
  refine Rk 5 2 ((tB 12 (!x10))::Em) b5 ag fun bl bc=>?_
  rcases Bool.eq_false_or_eq_true ((!x10)) with ai | ai
  ·
   rw [ai,XW] at aa
   have b6:Kn 47 [(d,0),(e,0)] ((tB 12 true)::Em) bl:=(bc.setB 12 true (by rfl) ai).kp
   refine Rk 7 16 ((tB 28 true)::Em) b6 ag fun db b7=>?_
   refine wf ?_
   obtain rfl:=XZ aa
   exact XY _ ⟨_,rfl,b7.kp,ag,ab⟩
  ·
   rw [ai,XV] at aa
   have b8:Kn 47 [(d,0),(e,0)] ((tB 12 false)::Em) bl:=(bc.setB 12 false (by rfl) ai).kp
   refine Rk 7 4 ((tS 16 k b.turns.length p)::(tS 14 l a.turns.length s)::(tB 12 false)::Em) b8 ag fun dc bd=>?_
   obtain⟨x17,ex17,aa⟩:=Ao aa
   refine AI _ rfl (Ak bd (by kernel_rfl)) fun K hK=>?_
   refine wc [.c (.slice l a.turns.length s),.c (.slice k b.turns.length p)] bd ag (GU n ag.has a.turns ap b.turns an ex17) fun dk c2 dr bo bf al=>?_
   obtain rfl:=bo
   refine⟨.one (.c (.bool x17)),rfl,fun cy (b9:Kn 47 [(d,0),(e,0)] ((tB 17 x17)::(tS 16 k b.turns.length p)::(tS 14 l a.turns.length s)::(tB 12 false)::Em) cy)=>hK _ _ ?_⟩
   refine Rk 12 3 ((tB 20 (!x17))::Em) b9 al fun bm be=>?_
   rcases Bool.eq_false_or_eq_true ((!x17)) with aj | aj
   ·
    rw [aj,XW] at aa
    have ca:Kn 47 [(d,0),(e,0)] ((tB 20 true)::Em) bm:=(be.setB 20 true (by rfl) aj).kp
    refine Rk 15 8 ((tB 28 true)::Em) ca al fun dd cb=>?_
    refine wf ?_
    obtain rfl:=XZ aa
    exact XY _ ⟨_,rfl,cb.kp,al,XU ab bf⟩
   ·
    rw [aj,XV] at aa
    have cc:Kn 47 [(d,0),(e,0)] ((tB 20 false)::Em) bm:=(be.setB 20 false (by rfl) aj).kp
    refine Rk 15 8 ((tB 28 (((a.spares.length:Nat):Int) != ((b.spares.length:Nat):Int)))::Em) cc al fun de cd=>?_
    refine wf ?_
    obtain rfl:=XZ aa
    exact XY _ ⟨_,rfl,cd.kp,al,XU ab bf⟩
 ·
  rintro _ ds ⟨a7,ah,rfl,a2,au,af⟩
  replace ao:=ao.mono af
  replace ap:=ap.mono af
  replace ae:=ae.mono af
  replace am:=am.mono af
  replace an:=an.mono af
  replace ad:=ad.mono af
  refine wC (bi) a2 (fun az=>?_) (fun az=>?_)
  ·
   rw [az,XW] at H
   refine XT (Aa (Rk 0 1 [tB 4 false] a2 au fun df ce=>?_))
   refine wf (wp_ret ?_)
   obtain rfl:=XZ H
   exact rt (.one (.c (.bool false))) ce au rfl
  ·
   rw [az,XV] at H
   refine wp_skip (XT (XT (Aa (Rk 0 1 ((tI 5 0)::Em) a2 au fun dg cf=>?_))))
   refine wf ?_
   obtain⟨bj,bb,H⟩:=Ao H
   refine Aw (fun a' w'=>∃ (bk:Unit)(a8:Array Value)(aw:Ad),a' = ⟨a8,[]⟩∧Kn 47 [(d,0),(e,0)] [] a8∧Ah ⟨w,h,A5⟩ aw [(d,0),(e,0)] [⟨Mq g a q l s x z,some 34⟩,⟨Mr i b m k p u y,some 34⟩] [] w'∧Ad.le ah aw∧bj=.go bk) ?_ ?_
   ·
    refine wp_block ?_
    refine Au (fun cr a' w'=>∃ (x_v10:Int)(a9:Array Value)(ax:Ad),a' = ⟨a9,[]⟩∧Kn 47 [(d,0),(e,0)] ((tI 5 x_v10)::Em) a9∧Ah ⟨w,h,A5⟩ ax [(d,0),(e,0)] [⟨Mq g a q l s x z,some 34⟩,⟨Mr i b m k p u y,some 34⟩] [] w'∧Ad.le ah ax∧Ee cr a b x_v10=some bj) n ?_ ?_
    ·
     exact XY 0 ⟨_,_,rfl,cf.kp,au,Ad.le_refl _,bb⟩
    ·
     rintro a5 _ dt ⟨x_v10,a9,ax,rfl,cg,ac,aq,f⟩
     clear bb
     obtain _ | a5:=a5
     ·
      rw [Ee] at f; cases f
     rw [Ee] at f
     replace ae:=ae.mono aq
     replace ad:=ad.mono aq
     refine XT (XT (Aa (Rk 0 5 ((tB 33 (decide (x_v10<((a.spares.length:Nat):Int))))::(tI 5 x_v10)::Em) cg ac fun dh a3=>?_)))
     refine wf (wC (decide (x_v10<((a.spares.length:Nat):Int))) a3 (fun a0=>?_) (fun a0=>?_))
     ·
      rw [a0,XW] at f
      refine wp_skip (XT (wp_block (XT (Al (by kernel_rfl) ?_))))
      replace ac:=ac.drew
      refine Am [] [(d,0),(e,0)] [⟨Mq g a q l s x z,some 34⟩,⟨Mr i b m k p u y,some 34⟩] ?_
      refine Dr [0,1,2] [2,1,0] ((tI 38 x_v10)::(tS 37 x a.spares.length z)::(tI 5 x_v10)::Em) a3 ac fun di ch=>?_
      obtain⟨x39,ex39,f⟩:=Ao f
      obtain⟨cj,cl,cp⟩:=Ai ex39
      obtain⟨av,a6,cz,bp,cn,br⟩:=ae.get (by decide) cp
      obtain rfl:=cn
      have a4:=ac.addPlc (b:=av) (o:=a6+(x_v10:Int).toNat*1) (cs:=[.bool x39]) (fun j c hj=>br j _ (Aj hj)) rfl (by kernel_rfl) (by kernel_rfl)
      refine A2 3 (x_v10) [.bool x39] (fun _ _ _ _ _ h=>h) rfl rfl (rfl) rfl (by decide) (by kernel_rfl) (by kernel_rfl) ch ac.plOk (by rfl) (by rfl) (by rfl) bp (by rfl) cj cl (by kernel_rfl) fun ct (bt:Kn 47 [(d,0),(e,0),(av,a6+(x_v10:Int).toNat*1)] ((tP 39 2 0)::(tI 38 x_v10)::(tS 37 x a.spares.length z)::(tI 5 x_v10)::Em) ct)=>?_
      refine Dr [4,5,6,7] (dn 7) ((tI 43 x_v10)::(tS 42 u b.spares.length y)::(tB 40 x39)::(tI 5 x_v10)::Em) bt a4 fun c4 bu=>?_
      obtain⟨x44,ex44,f⟩:=Ao f
      obtain⟨ck,cm,cq⟩:=Ai ex44
      obtain⟨ba,bh,c0,bq,co,bs⟩:=ad.get (by decide) cq
      obtain rfl:=co
      have ak:=a4.addPlc (b:=ba) (o:=bh+(x_v10:Int).toNat*1) (cs:=[.bool x44]) (fun j c hj=>bs j _ (Aj hj)) rfl (by kernel_rfl) (by kernel_rfl)
      refine A2 8 (x_v10) [.bool x44] (fun _ _ _ _ _ h=>h) rfl rfl (rfl) rfl (by decide) (by kernel_rfl) (by kernel_rfl) bu a4.plOk (by rfl) (by rfl) (by rfl) bq (by rfl) ck cm (by kernel_rfl) fun cu (bv:Kn 47 [(d,0),(e,0),(av,a6+(x_v10:Int).toNat*1),(ba,bh+(x_v10:Int).toNat*1)] ((tP 44 3 0)::(tI 43 x_v10)::(tS 42 u b.spares.length y)::(tB 40 x39)::(tI 5 x_v10)::Em) cu)=>?_
      refine Dr [9,10] (dn 10) ((tB 46 (!(x39 == x44)))::(tI 5 x_v10)::Em) bv ak fun c5 a1=>?_
      refine A1 (by kernel_rfl) (wC ((!(x39 == x44))) a1 (fun ay=>?_) (fun ay=>?_))
      ·
       rw [ay,XW] at f
       refine XT (Aa (Rk 0 1 [tB 4 false] a1 ak fun c6 bw=>?_))
       refine wf (wp_ret ?_)
       obtain rfl:=XZ f
       obtain rfl:=XZ H
       exact rt (.one (.c (.bool false))) bw ak rfl
      ·
       rw [ay,XV] at f
       refine wp_skip (Aa (Rk 0 3 ((tI 5 (IntKind.i64.wrap (x_v10+1)))::Em) a1 ak fun c7 bx=>?_))
       refine wf ?_
       exact XY a5 ⟨Nat.lt_succ_self _,XY (IntKind.i64.wrap (x_v10+1)) ⟨_,_,rfl,(bx.keep [5,3,2] (by rfl)).cut 2 (by kernel_rfl),ak.cutPl 2 (by kernel_rfl),aq,f⟩⟩
     ·
      rw [a0,XV] at f
      refine wp_exit ?_
      obtain rfl:=XZ f
      exact XY () ⟨_,_,rfl,a3.kp,ac,aq,rfl⟩
   ·
    rintro _ dl ⟨bk,a8,aw,rfl,bz,bg,c3,rfl⟩
    rw [Ex.bind_go] at H
    refine XT (Aa (Rk 0 1 [tB 4 true] bz bg fun c8 b0=>?_))
    refine wf (wp_ret ?_)
    obtain rfl:=XZ H
    exact rt (.one (.c (.bool true))) b0 bg rfl
abbrev Mt (y:Option Addr) (a:As) (z:Nat) (k:Option Addr) (m:Nat) (aa:Option Addr) (ac:Nat):List SC:=[.slice y a.holds.length z,.slice k a.turns.length m,.slice aa a.spares.length ac]
abbrev T9 (e f l p:Nat) (x_v10:Int) (ab ad ak au av az:Nat):Be:=[(e,0),(f,0),(l,p+(x_v10:Int).toNat*1),(ab,ad+(x_v10:Int).toNat*1),(ak,au+(x_v10:Int).toNat*1),(av,az+(x_v10:Int).toNat*3)]
abbrev Jd (q:Option Addr) (r_:Af) (u:Nat) (g:Option Addr) (i:Nat) (s:Option Addr) (x:Nat):List SC:=[.slice q r_.legs.length u,.int .i64 r_.turn.lo,.int .i64 r_.turn.hi,.slice g r_.buses.length i,.slice s r_.spares.length x,.int .i64 r_.unit,.int .i64 r_.gap,.int .i64 r_.fr,.int .i64 r_.to_]
abbrev FX (x_v10:Int):TM:=[tI 5 x_v10,tP 3 1 0,tP 2 0 0]
abbrev H4:TM:=[tP 3 1 0,tP 2 0 0]
abbrev Le (x_v10:Int):TM:=(tB 52 true)::(tB 45 false)::(FX x_v10)
set_option maxRecDepth 100000 in
set_option maxHeartbeats 4000000 in
theorem NL (n:Nat) {h:Ad} {w:World} (hh:Dk h w) (r_:Af) {cs_r_:List Value} (hx_r_:rep h r_ cs_r_) (a:As) {cs_a:List Value} (hx_a:rep h a cs_a) {r:Bool} (H:FT n r_ a=some r) :
  Calls Try.prog 28 #[.agg cs_r_.toArray,.agg cs_a.toArray] w (Dq (fun h v=>v=.bool r) h w):=by
 obtain⟨_,_,rfl,⟨q,u,rfl,ap⟩,⟨_,_,rfl,⟨_,_,rfl,rfl,rfl⟩,⟨_,_,rfl,⟨g,i,rfl,aj⟩,⟨_,_,rfl,⟨s,x,rfl,aq⟩,⟨_,_,rfl,rfl,⟨_,_,rfl,rfl,⟨_,_,rfl,rfl,rfl⟩⟩⟩⟩⟩⟩⟩:=hx_r_
 obtain⟨_,_,rfl,⟨y,z,rfl,ao⟩,⟨_,_,rfl,⟨k,m,rfl,ai⟩,⟨aa,ac,rfl,ay⟩⟩⟩:=hx_a
 refine enter 71 [.agg (Jd q r_ u g i s x),.agg (Mt y a z k m aa ac)] Try.func28 rfl rfl rfl rfl fun t hk=>?_
 have hm:=Ah.begin h w hh
 unfold FT at H
 refine XT (Aa (wl fun K hK=>?_))
 refine wb (.agg (Jd q r_ u g i s x)) hk hm fun e d6 fa (cz:Kn 71 [(e,0)] [tP 2 0 0,tA 0 (Jd q r_ u g i s x),tA 1 (Mt y a z k m aa ac)] d6) dh=>hK _ _ ?_
 refine wl fun K hK=>?_
 refine wb (.agg (Mt y a z k m aa ac)) cz dh fun f d7 fb (c0:Kn 71 [(e,0),(f,0)] [tP 3 1 0,tP 2 0 0,tA 0 (Jd q r_ u g i s x),tA 1 (Mt y a z k m aa ac)] d7) af=>hK _ _ ?_
 refine Rk 2 1 H4 c0 af fun ev c1=>?_
 refine wf (XT (XT ?_))
 obtain⟨bz,al,H⟩:=Ao H
 refine Aw (fun a' w'=>∃ (bi:Array Value)(a0:Ad),a' = ⟨bi,[]⟩∧Kn 71 [(e,0),(f,0)] [tP 3 1 0,tP 2 0 0,tB 30 bz] bi∧Ah ⟨w,h,A5⟩ a0 [(e,0),(f,0)] [⟨Jd q r_ u g i s x,some 28⟩,⟨Mt y a z k m aa ac,some 50⟩] [] w'∧Ad.le h a0) ?_ ?_
 ·
  refine Aa (Rk 0 8 ((tB 13 (((a.holds.length:Nat):Int) != ((r_.buses.length:Nat):Int)))::H4) c1 af fun b4 bv=>?_)
  rcases Bool.eq_false_or_eq_true ((((a.holds.length:Nat):Int) != ((r_.buses.length:Nat):Int))) with a3 | a3
  ·
   rw [a3,XW] at al
   have c2:Kn 71 [(e,0),(f,0)] ((tB 13 true)::H4) b4:=(bv.setB 13 true (by rfl) a3).kp
   refine Rk 8 17 ((tB 30 true)::H4) c2 af fun ew c3=>?_
   refine wf ?_
   obtain rfl:=XZ al
   exact XY _ ⟨_,rfl,c3.kp,af,Ad.le_refl _⟩
  ·
   rw [a3,XV] at al
   have c4:Kn 71 [(e,0),(f,0)] ((tB 13 false)::H4) b4:=(bv.setB 13 false (by rfl) a3).kp
   refine Rk 8 9 ((tB 22 (((a.turns.length:Nat):Int) != ((r_.buses.length:Nat):Int)))::H4) c4 af fun b5 bw=>?_
   rcases Bool.eq_false_or_eq_true ((((a.turns.length:Nat):Int) != ((r_.buses.length:Nat):Int))) with a4 | a4
   ·
    rw [a4,XW] at al
    have c5:Kn 71 [(e,0),(f,0)] ((tB 22 true)::H4) b5:=(bw.setB 22 true (by rfl) a4).kp
    refine Rk 17 8 ((tB 30 true)::H4) c5 af fun ex c6=>?_
    refine wf ?_
    obtain rfl:=XZ al
    exact XY _ ⟨_,rfl,c6.kp,af,Ad.le_refl _⟩
   ·
    rw [a4,XV] at al
    have c7:Kn 71 [(e,0),(f,0)] ((tB 22 false)::H4) b5:=(bw.setB 22 false (by rfl) a4).kp
    refine Rk 17 8 ((tB 30 (((a.spares.length:Nat):Int) != ((r_.spares.length:Nat):Int)))::H4) c7 af fun ey c8=>?_
    refine wf ?_
    obtain rfl:=XZ al
    exact XY _ ⟨_,rfl,c8.kp,af,Ad.le_refl _⟩
 ·
  rintro _ fc ⟨bi,a0,rfl,bd,a6,aw⟩
  replace ap:=ap.mono aw
  replace aj:=aj.mono aw
  replace aq:=aq.mono aw
  replace ao:=ao.mono aw
  replace ai:=ai.mono aw
  replace ay:=ay.mono aw
  refine wC (bz) bd (fun ba=>?_) (fun ba=>?_)
  ·
   rw [ba,XW] at H
   refine XT (Aa (Rk 0 1 [tB 4 false] bd a6 fun ez c9=>?_))
   refine wf (wp_ret ?_)
   obtain rfl:=XZ H
   exact rt (.one (.c (.bool false))) c9 a6 rfl
  ·
   rw [ba,XV] at H
   refine wp_skip (XT (XT (Aa (Rk 0 1 ((tI 5 0)::H4) bd a6 fun e0 da=>?_))))
   refine wf ?_
   obtain⟨b0,bl,H⟩:=Ao H
   refine Aw (fun a' w'=>∃ (b1:Unit)(bj:Array Value)(a7:Ad),a' = ⟨bj,[]⟩∧Kn 71 [(e,0),(f,0)] [] bj∧Ah ⟨w,h,A5⟩ a7 [(e,0),(f,0)] [⟨Jd q r_ u g i s x,some 28⟩,⟨Mt y a z k m aa ac,some 50⟩] [] w'∧Ad.le a0 a7∧b0=.go b1) ?_ ?_
   ·
    refine wp_block ?_
    refine Au (fun d0 a' w'=>∃ (x_v10:Int)(bk:Array Value)(a8:Ad),a' = ⟨bk,[]⟩∧Kn 71 [(e,0),(f,0)] (FX x_v10) bk∧Ah ⟨w,h,A5⟩ a8 [(e,0),(f,0)] [⟨Jd q r_ u g i s x,some 28⟩,⟨Mt y a z k m aa ac,some 50⟩] [] w'∧Ad.le a0 a8∧C4 d0 r_ a x_v10=some b0) n ?_ ?_
    ·
     exact XY 0 ⟨_,_,rfl,da.kp,a6,Ad.le_refl _,bl⟩
    ·
     rintro ar _ fd ⟨x_v10,bk,a8,rfl,db,an,ae,d⟩
     clear bl
     obtain _ | ar:=ar
     ·
      rw [C4] at d; cases d
     rw [C4] at d
     replace ap:=ap.mono ae
     replace aj:=aj.mono ae
     replace aq:=aq.mono ae
     replace ao:=ao.mono ae
     replace ai:=ai.mono ae
     replace ay:=ay.mono ae
     refine XT (XT (Aa (Rk 0 5 ((tB 35 (decide (x_v10<((r_.buses.length:Nat):Int))))::(FX x_v10)) db an fun e1 be=>?_)))
     refine wf (wC (decide (x_v10<((r_.buses.length:Nat):Int))) be (fun bb=>?_) (fun bb=>?_))
     ·
      rw [bb,XW] at d
      refine wp_skip (XT (wp_block (XT (Al (by kernel_rfl) ?_))))
      replace an:=an.drew
      refine Am [] [(e,0),(f,0)] [⟨Jd q r_ u g i s x,some 28⟩,⟨Mt y a z k m aa ac,some 50⟩] ?_
      refine Dr [0,1,2] [2,1,0] ((tI 40 x_v10)::(tS 39 y a.holds.length z)::(FX x_v10)) be an fun e2 dc=>?_
      obtain⟨x41,ex41,d⟩:=Ao d
      obtain⟨dl,dr,dz⟩:=Ai ex41
      obtain⟨l,p,ed,cd,dv,ch⟩:=ao.get (by decide) dz
      obtain rfl:=dv
      have bh:=an.addPlc (b:=l) (o:=p+(x_v10:Int).toNat*1) (cs:=[.int .i64 x41]) (fun j c hj=>ch j _ (Aj hj)) rfl (by kernel_rfl) (by kernel_rfl)
      refine A2 3 (x_v10) [.int .i64 x41] (fun _ _ _ _ _ h=>h) rfl rfl (rfl) rfl (by decide) (by kernel_rfl) (by kernel_rfl) dc an.plOk (by rfl) (by rfl) (by rfl) cd (by rfl) dl dr (by kernel_rfl) fun d8 (dd:Kn 71 [(e,0),(f,0),(l,p+(x_v10:Int).toNat*1)] ((tP 41 2 0)::(tI 40 x_v10)::(tS 39 y a.holds.length z)::(FX x_v10)) d8)=>?_
      refine Dr [4] (dn 4) ((tI 42 x41)::(FX x_v10)) dd bh fun e3 de=>?_
      obtain⟨x43,ex43,d⟩:=Ao d
      refine Dl 5 fun K hK=>?_
      refine wc [.c (.int .i64 x41),.c (.int .i64 0),.c (.int .i64 2)] de bh (Ew ar bh.has x41 0 2 ex43) fun e6 b9 fe b8 ag ah=>?_
      replace ap:=ap.mono ag
      replace aj:=aj.mono ag
      replace aq:=aq.mono ag
      replace ao:=ao.mono ag
      replace ai:=ai.mono ag
      replace ay:=ay.mono ag
      obtain rfl:=b8
      refine⟨.one (.c (.bool x43)),rfl,fun d9 (ci:Kn 71 [(e,0),(f,0),(l,p+(x_v10:Int).toNat*1)] ((tB 43 x43)::(tI 42 x41)::(FX x_v10)) d9)=>hK _ _ ah.plOk ?_⟩
      refine Dr [6,7] (dn 7) ((tB 45 (!x43))::(FX x_v10)) ci ah fun b2 bm=>?_
      rcases Bool.eq_false_or_eq_true ((!x43)) with a1 | a1
      ·
       rw [a1,XW] at d
       have cj:Kn 71 [(e,0),(f,0),(l,p+(x_v10:Int).toNat*1)] ((tB 45 true)::(FX x_v10)) b2:=(bm.setB 45 true (by rfl) a1).kp
       refine Dr [8,9,10,11,12,13,14,15,16,17,18,19,20,21,22,23,24,25,26,27,28,29,30,31,32] (dn 32) ((tB 70 true)::(FX x_v10)) cj ah fun eh bn=>?_
       refine A1 (by kernel_rfl) (wC true bn (fun hb=>?_) (fun hb=>?_))
       rotate_left
       ·
        cases hb
       refine XT (Aa (Rk 0 1 [tB 4 false] bn ah fun ei ck=>?_))
       refine wf (wp_ret ?_)
       obtain rfl:=XZ d
       obtain rfl:=XZ H
       exact rt (.one (.c (.bool false))) ck ah rfl
      ·
       rw [a1,XV] at d
       have cl:Kn 71 [(e,0),(f,0),(l,p+(x_v10:Int).toNat*1)] ((tB 45 false)::(FX x_v10)) b2:=(bm.setB 45 false (by rfl) a1).kp
       refine Dr [8,9,10] (dn 10) ((tI 48 x_v10)::(tS 47 k a.turns.length m)::(tB 45 false)::(FX x_v10)) cl ah fun ej bo=>?_
       obtain⟨x49,ex49,d⟩:=Ao d
       obtain⟨di,dm,dw⟩:=Ai ex49
       obtain⟨ab,ad,ea,ca,ds,ce⟩:=ai.get (by decide) dw
       obtain rfl:=ds
       have am:=ah.addPlc (b:=ab) (o:=ad+(x_v10:Int).toNat*1) (cs:=[.int .i64 x49]) (fun j c hj=>ce j _ (Aj hj)) rfl (by kernel_rfl) (by kernel_rfl)
       refine A2 11 (x_v10) [.int .i64 x49] (fun _ _ _ _ _ h=>h) rfl rfl (Ak bo (by kernel_rfl)) rfl (by decide) (by kernel_rfl) (by kernel_rfl) bo ah.plOk (by rfl) (by rfl) (by rfl) ca (by rfl) di dm (by kernel_rfl) fun d1 (cm:Kn 71 [(e,0),(f,0),(l,p+(x_v10:Int).toNat*1),(ab,ad+(x_v10:Int).toNat*1)] ((tP 49 3 0)::(tI 48 x_v10)::(tS 47 k a.turns.length m)::(tB 45 false)::(FX x_v10)) d1)=>?_
       refine Dr [12,13,14] (dn 14) ((tB 52 (x49 != (-1)))::(tB 45 false)::(FX x_v10)) cm am fun b3 bp=>?_
       rcases Bool.eq_false_or_eq_true ((x49 != (-1))) with a2 | a2
       ·
        rw [a2,XW] at d
        have cn:Kn 71 [(e,0),(f,0),(l,p+(x_v10:Int).toNat*1),(ab,ad+(x_v10:Int).toNat*1)] (Le x_v10) b3:=(bp.setB 52 true (by rfl) a2).kp
        refine Dr [15,16,17] (dn 17) ((tI 55 x_v10)::(tS 54 k a.turns.length m)::(Le x_v10)) cn am fun ek bq=>?_
        obtain⟨x56,ex56,d⟩:=Ao d
        obtain⟨dj,dp,dx⟩:=Ai ex56
        obtain⟨ak,au,eb,cb,dt,cf⟩:=ai.get (by decide) dx
        obtain rfl:=dt
        have bf:=am.addPlc (b:=ak) (o:=au+(x_v10:Int).toNat*1) (cs:=[.int .i64 x56]) (fun j c hj=>cf j _ (Aj hj)) rfl (by kernel_rfl) (by kernel_rfl)
        refine A2 18 (x_v10) [.int .i64 x56] (fun _ _ _ _ _ h=>h) rfl rfl (Ak bq (by kernel_rfl)) rfl (by decide) (by kernel_rfl) (by kernel_rfl) bq am.plOk (by rfl) (by rfl) (by rfl) cb (by rfl) dj dp (by kernel_rfl) fun d2 (co:Kn 71 [(e,0),(f,0),(l,p+(x_v10:Int).toNat*1),(ab,ad+(x_v10:Int).toNat*1),(ak,au+(x_v10:Int).toNat*1)] ((tP 56 4 0)::(tI 55 x_v10)::(tS 54 k a.turns.length m)::(Le x_v10)) d2)=>?_
        refine Dr [19,20,21,22] (dn 22) ((tI 60 x_v10)::(tS 59 g r_.buses.length i)::(tI 57 x56)::(Le x_v10)) co bf fun el br=>?_
        obtain⟨x61,ex61,d⟩:=Ao d
        obtain⟨dk,dq,dy⟩:=Ai ex61
        obtain⟨av,az,ec,cc,du,cg⟩:=aj.get (by decide) dy
        obtain⟨_,_,rfl,rfl,⟨_,_,rfl,rfl,rfl⟩⟩:=du
        have bg:=bf.addPlc (b:=av) (o:=az+(x_v10:Int).toNat*3) (cs:=[.int .i64 x61.stop,.int .i64 x61.tm.lo,.int .i64 x61.tm.hi]) (fun j c hj=>cg j _ (Aj hj)) rfl (by kernel_rfl) (by kernel_rfl)
        refine A2 23 (x_v10) [.int .i64 x61.stop,.int .i64 x61.tm.lo,.int .i64 x61.tm.hi] (fun _ _ _ _ _ h=>h) rfl rfl (Ak br (by kernel_rfl)) rfl (by decide) (by kernel_rfl) (by kernel_rfl) br bf.plOk (by rfl) (by rfl) (by rfl) cc (by rfl) dk dq (by kernel_rfl) fun d3 (cp:Kn 71 (T9 e f l p x_v10 ab ad ak au av az) ((tP 61 5 0)::(tI 60 x_v10)::(tS 59 g r_.buses.length i)::(tI 57 x56)::(Le x_v10)) d3)=>?_
        refine Dr [24,25,26] (dn 26) ((tA 64 (Jd q r_ u g i s x))::(tI 63 x61.stop)::(tI 57 x56)::(Le x_v10)) cp bg fun em bs=>?_
        obtain⟨x65,ex65,d⟩:=Ao d
        refine FB 27 rfl (by kernel_rfl) (by decide) (Ak bs (by kernel_rfl)) fun K hK=>?_
        refine wc [.agg (Jd q r_ u g i s x)] bs bg (Oy ar bg.has r_ ((Ab (Ae ap) (Ab (Ab Ac Ac) (Ab (Ae aj) (Ab (Ae aq) (Ab Ac (Ab Ac (Ab Ac Ac))))))):rep b9 r_ _) ex65) fun e4 ee e7 b6 df a5=>?_
        obtain rfl:=b6
        refine⟨.one (.c (.int .i64 x65)),rfl,fun d4 (cq:Kn 71 (T9 e f l p x_v10 ab ad ak au av az) ((tI 65 x65)::(tA 64 (Jd q r_ u g i s x))::(tI 63 x61.stop)::(tI 57 x56)::(Le x_v10)) d4)=>hK _ _ a5.plOk ?_⟩
        refine Dr [28] (dn 28) ((tI 66 (IntKind.i64.wrap (x65-2)))::(tI 63 x61.stop)::(tI 57 x56)::(Le x_v10)) cq a5 fun en bt=>?_
        obtain⟨x67,ex67,d⟩:=Ao d
        refine FB 29 rfl (by kernel_rfl) (by decide) (Ak bt (by kernel_rfl)) fun K hK=>?_
        refine wc [.c (.int .i64 x56),.c (.int .i64 x61.stop),.c (.int .i64 (IntKind.i64.wrap (x65-2)))] bt a5 (Ew ar a5.has x56 x61.stop (IntKind.i64.wrap (x65-2)) ex67) fun e5 ef e8 b7 dg ax=>?_
        obtain rfl:=b7
        refine⟨.one (.c (.bool x67)),rfl,fun d5 (cr:Kn 71 (T9 e f l p x_v10 ab ad ak au av az) ((tB 67 x67)::(tI 66 (IntKind.i64.wrap (x65-2)))::(tI 63 x61.stop)::(tI 57 x56)::(Le x_v10)) d5)=>hK _ _ ax.plOk ?_⟩
        refine Dr [30,31,32] (dn 32) ((tB 70 (!x67))::(FX x_v10)) cr ax fun eo bc=>?_
        refine A1 (by kernel_rfl) (wC ((!x67)) bc (fun a9=>?_) (fun a9=>?_))
        ·
         rw [a9,XW] at d
         refine XT (Aa (Rk 0 1 [tB 4 false] bc ax fun ep ct=>?_))
         refine wf (wp_ret ?_)
         obtain rfl:=XZ d
         obtain rfl:=XZ H
         exact rt (.one (.c (.bool false))) ct ax rfl
        ·
         rw [a9,XV] at d
         refine wp_skip (Aa (Rk 0 3 ((tI 5 (IntKind.i64.wrap (x_v10+1)))::H4) bc ax fun er cu=>?_))
         refine wf ?_
         exact XY ar ⟨Nat.lt_succ_self _,XY (IntKind.i64.wrap (x_v10+1)) ⟨_,_,rfl,(cu.keep [5,3,2] (by rfl)).cut 2 (by kernel_rfl),ax.cutPl 2 (by kernel_rfl),XU ae (XU ag (XU df dg)),d⟩⟩
       ·
        rw [a2,XV] at d
        have cv:Kn 71 [(e,0),(f,0),(l,p+(x_v10:Int).toNat*1),(ab,ad+(x_v10:Int).toNat*1)] ((tB 52 false)::(tB 45 false)::(FX x_v10)) b3:=(bp.setB 52 false (by rfl) a2).kp
        refine Dr [15,16,17,18,19,20,21,22,23,24,25,26,27,28,29,30,31,32] (dn 32) ((tB 70 false)::(FX x_v10)) cv am fun es bu=>?_
        refine A1 (by kernel_rfl) (wC false bu (fun hb=>?_) (fun hb=>?_))
        ·
         cases hb
        refine wp_skip (Aa (Rk 0 3 ((tI 5 (IntKind.i64.wrap (x_v10+1)))::H4) bu am fun et cw=>?_))
        refine wf ?_
        exact XY ar ⟨Nat.lt_succ_self _,XY (IntKind.i64.wrap (x_v10+1)) ⟨_,_,rfl,(cw.keep [5,3,2] (by rfl)).cut 2 (by kernel_rfl),am.cutPl 2 (by kernel_rfl),XU ae ag,d⟩⟩
     ·
      rw [bb,XV] at d
      refine wp_exit ?_
      obtain rfl:=XZ d
      exact XY () ⟨_,_,rfl,be.kp,an,ae,rfl⟩
   ·
    rintro _ e9 ⟨b1,bj,a7,rfl,cx,bx,eg,rfl⟩
    rw [Ex.bind_go] at H
    refine XT (Aa (Rk 0 1 [tB 4 true] cx bx fun eu cy=>?_))
    refine wf (wp_ret ?_)
    obtain rfl:=XZ H
    exact rt (.one (.c (.bool true))) cy bx rfl
abbrev NM (a b c:Option Addr):List SC:=[.slice a 3 3,.int .i64 0,.int .i64 4,.slice b 2 2,.slice c 1 1,.int .i64 5,.int .i64 37,.int .i64 0,.int .i64 50]
abbrev Sl (a:Option Addr):TM:=[tA 5 [.int .i64 0,.int .i64 4],tS 4 a 3 3,tP 0 0 0]
set_option maxRecDepth 100000 in
set_option maxHeartbeats 4000000 in
theorem Je (n:Nat) {h:Ad} {w:World} (hh:Dk h w)  {r:Af} (H:IG n =some r) :
  Calls Try.prog 45 #[] w (Dq (fun h v=>∃ cs,v=.agg cs.toArray∧rep h r cs) h w):=by
 refine enter 13 [] Try.func45 rfl rfl rfl rfl fun t hk=>?_
 have hm:=Ah.begin h w hh
 unfold IG at H
 refine XT (Aa (wl fun K hK=>?_))
 refine wa [.slice none 0 0,.int .i64 0,.int .i64 0,.slice none 0 0,.slice none 0 0,.int .i64 0,.int .i64 0,.int .i64 0,.int .i64 0] hk hm fun d aw a6 (an:Kn 13 [(d,0)] [tP 0 0 0] aw) ae=>hK _ _ ?_
 refine wf (XT (Aa (Rk 0 3 [tA 3 [.int .i64 10,.int .i64 12],tA 2 [.int .i64 5,.int .i64 15],tA 1 [.int .i64 10,.int .i64 10],tP 0 0 0] an ae fun a2 ao=>?_)))
 refine wl fun K hK=>?_
 refine wS 39 2 [.int .i64 10,.int .i64 10,.int .i64 5,.int .i64 15,.int .i64 10,.int .i64 12] ao ae fun a az a3 (af:Kn 13 [(d,0)] [tS 4 a 3 3,tA 3 [.int .i64 10,.int .i64 12],tA 2 [.int .i64 5,.int .i64 15],tA 1 [.int .i64 10,.int .i64 10],tP 0 0 0] az) aa=>?_
 have j:Ag h ([Rg.mk 10 10,Rg.mk 5 15,Rg.mk 10 12]:List Rg) ([.int .i64 10,.int .i64 10,.int .i64 5,.int .i64 15,.int .i64 10,.int .i64 12]:List Value):=⟨_,_,rfl,((Ab Ac Ac):rep h ((Rg.mk 10 10):Rg) _),⟨_,_,rfl,((Ab Ac Ac):rep h ((Rg.mk 5 15):Rg) _),⟨_,_,rfl,((Ab Ac Ac):rep h ((Rg.mk 10 12):Rg) _),rfl⟩⟩⟩
 refine hK _ _ ?_
 refine Rk 4 4 ((tA 8 [.int .i64 0,.int .i64 10,.int .i64 20])::(tA 6 [.int .i64 0,.int .i64 0,.int .i64 0])::(Sl a)) af aa fun a0 ag=>?_
 refine wl fun K hK=>?_
 refine wS 96 3 [.int .i64 0,.int .i64 0,.int .i64 0,.int .i64 0,.int .i64 10,.int .i64 20] ag aa fun b av a4 (ah:Kn 13 [(d,0)] ((tS 9 b 2 2)::(tA 8 [.int .i64 0,.int .i64 10,.int .i64 20])::(tA 6 [.int .i64 0,.int .i64 0,.int .i64 0])::(Sl a)) av) ab=>?_
 have k:Ag h ([Ce.mk 0 (Rg.mk 0 0),Ce.mk 0 (Rg.mk 10 20)]:List Ce) ([.int .i64 0,.int .i64 0,.int .i64 0,.int .i64 0,.int .i64 10,.int .i64 20]:List Value):=⟨_,_,rfl,((Ab Ac (Ab Ac Ac)):rep h ((Ce.mk 0 (Rg.mk 0 0)):Ce) _),⟨_,_,rfl,((Ab Ac (Ab Ac Ac)):rep h ((Ce.mk 0 (Rg.mk 10 20)):Ce) _),rfl⟩⟩
 refine hK _ _ ?_
 refine Rk 9 1 ((tA 10 [.int .i64 2,.int .i64 40])::(tS 9 b 2 2)::(Sl a)) ah ab fun a1 ai=>?_
 refine wl fun K hK=>?_
 refine wS 110 2 [.int .i64 2,.int .i64 40] ai ab fun c ax a5 (aj:Kn 13 [(d,0)] ((tS 11 c 1 1)::(tA 10 [.int .i64 2,.int .i64 40])::(tS 9 b 2 2)::(Sl a)) ax) ac=>?_
 have l:Ag h ([Az.mk 2 40]:List Az) ([.int .i64 2,.int .i64 40]:List Value):=⟨_,_,rfl,((Ab Ac Ac):rep h ((Az.mk 2 40):Az) _),rfl⟩
 refine hK _ _ ?_
 refine Rk 11 1 [tA 12 (NM a b c),tP 0 0 0] aj ac fun ay ak=>?_
 refine wl fun K hK=>?_
 refine EA 0 0 (.agg (NM a b c)) (NM a b c) ak ac fun x al ad=>hK _ _ ?_
 have am:Kn 13 [(d,0)] [tP 0 0 0] ay:=al.kp
 refine wf (wp_ret ?_)
 obtain⟨y,m,aq,e⟩:=ad.settle (i:=0) rfl
 replace j:=j.mono m
 replace e:Ah ⟨w,h,A5⟩ y [(d,0)] [⟨NM a b c,some 43⟩] [⟨a,3,3,39,2,([.int .i64 10,.int .i64 10,.int .i64 5,.int .i64 15,.int .i64 10,.int .i64 12]:List Value),(([.int .i64 10,.int .i64 10,.int .i64 5,.int .i64 15,.int .i64 10,.int .i64 12]:List Value):List Value).length⟩,⟨b,2,2,96,3,([.int .i64 0,.int .i64 0,.int .i64 0,.int .i64 0,.int .i64 10,.int .i64 20]:List Value),0⟩,⟨c,1,1,110,2,([.int .i64 2,.int .i64 40]:List Value),0⟩] x:=e
 have s:A0 y a 3 ([Rg.mk 10 10,Rg.mk 5 15,Rg.mk 10 12]:List Rg):=⟨_,j,aq,ad.rowCap (i:=0) rfl⟩
 obtain⟨z,o,ar,f⟩:=e.settle (i:=1) rfl
 replace k:=k.mono (XU m o)
 replace f:Ah ⟨w,h,A5⟩ z [(d,0)] [⟨NM a b c,some 43⟩] [⟨a,3,3,39,2,([.int .i64 10,.int .i64 10,.int .i64 5,.int .i64 15,.int .i64 10,.int .i64 12]:List Value),(([.int .i64 10,.int .i64 10,.int .i64 5,.int .i64 15,.int .i64 10,.int .i64 12]:List Value):List Value).length⟩,⟨b,2,2,96,3,([.int .i64 0,.int .i64 0,.int .i64 0,.int .i64 0,.int .i64 10,.int .i64 20]:List Value),(([.int .i64 0,.int .i64 0,.int .i64 0,.int .i64 0,.int .i64 10,.int .i64 20]:List Value):List Value).length⟩,⟨c,1,1,110,2,([.int .i64 2,.int .i64 40]:List Value),0⟩] x:=f
 have u:A0 z b 2 ([Ce.mk 0 (Rg.mk 0 0),Ce.mk 0 (Rg.mk 10 20)]:List Ce):=⟨_,k,ar,e.rowCap (i:=1) rfl⟩
 obtain⟨g,p,au,q⟩:=f.settle (i:=2) rfl
 replace s:=s.mono (XU o p)
 replace u:=u.mono p
 replace l:=l.mono (XU (XU m o) p)
 replace q:Ah ⟨w,h,A5⟩ g [(d,0)] [⟨NM a b c,some 43⟩] [⟨a,3,3,39,2,([.int .i64 10,.int .i64 10,.int .i64 5,.int .i64 15,.int .i64 10,.int .i64 12]:List Value),(([.int .i64 10,.int .i64 10,.int .i64 5,.int .i64 15,.int .i64 10,.int .i64 12]:List Value):List Value).length⟩,⟨b,2,2,96,3,([.int .i64 0,.int .i64 0,.int .i64 0,.int .i64 0,.int .i64 10,.int .i64 20]:List Value),(([.int .i64 0,.int .i64 0,.int .i64 0,.int .i64 0,.int .i64 10,.int .i64 20]:List Value):List Value).length⟩,⟨c,1,1,110,2,([.int .i64 2,.int .i64 40]:List Value),(([.int .i64 2,.int .i64 40]:List Value):List Value).length⟩] x:=q
 have ap:A0 g c 1 ([Az.mk 2 40]:List Az):=⟨_,l,au,f.rowCap (i:=2) rfl⟩
 obtain rfl:=XZ H
 exact rt (.one (.agg (NM a b c))) am q ⟨_,rfl,((Ab (Ae s) (Ab (Ab Ac Ac) (Ab (Ae u) (Ab (Ae ap) (Ab Ac (Ab Ac (Ab Ac Ac))))))):rep g ((Af.mk ([Rg.mk 10 10,Rg.mk 5 15,Rg.mk 10 12]:List Rg) (Rg.mk 0 4) ([Ce.mk 0 (Rg.mk 0 0),Ce.mk 0 (Rg.mk 10 20)]:List Ce) ([Az.mk 2 40]:List Az) 5 37 0 50):Af) _)⟩
abbrev NN (a b c:Option Addr):List SC:=[.slice a 2 2,.slice b 2 2,.slice c 1 1]
set_option maxRecDepth 100000 in
set_option maxHeartbeats 4000000 in
theorem QQ (n:Nat) {h:Ad} {w:World} (hh:Dk h w)  {r:As} (H:No n =some r) :
  Calls Try.prog 46 #[] w (Dq (fun h v=>∃ cs,v=.agg cs.toArray∧rep h r cs) h w):=by
 refine enter 5 [] Try.func46 rfl rfl rfl rfl fun t hk=>?_
 have hm:=Ah.begin h w hh
 unfold No at H
 refine XT (Aa (wl fun K hK=>?_))
 refine wa [.slice none 0 0,.slice none 0 0,.slice none 0 0] hk hm fun d au az (ah:Kn 5 [(d,0)] [tP 0 0 0] au) al=>hK _ _ ?_
 refine wf (XT (Aa (wl fun K hK=>?_)))
 refine wS 3 1 [.int .i64 0,.int .i64 0] ah al fun a aw a0 (ai:Kn 5 [(d,0)] [tS 1 a 2 2,tP 0 0 0] aw) aj=>?_
 have j:Ag h ([0,0]:List Int) ([.int .i64 0,.int .i64 0]:List Value):=⟨_,_,rfl,(Ac:rep h (0:Int) _),⟨_,_,rfl,(Ac:rep h (0:Int) _),rfl⟩⟩
 refine hK _ _ ?_
 refine wl fun K hK=>?_
 refine wS 3 1 [.int .i64 (-1),.int .i64 (-1)] ai aj fun b aq ax (ac:Kn 5 [(d,0)] [tS 2 b 2 2,tS 1 a 2 2,tP 0 0 0] aq) ak=>?_
 have k:Ag h ([(-1),(-1)]:List Int) ([.int .i64 (-1),.int .i64 (-1)]:List Value):=⟨_,_,rfl,(Ac:rep h ((-1):Int) _),⟨_,_,rfl,(Ac:rep h ((-1):Int) _),rfl⟩⟩
 refine hK _ _ ?_
 refine wl fun K hK=>?_
 refine wS 4 1 [.bool false] ac ak fun c ar ay (ad:Kn 5 [(d,0)] [tS 3 c 1 1,tS 2 b 2 2,tS 1 a 2 2,tP 0 0 0] ar) aa=>?_
 have l:Ag h ([false]:List Bool) ([.bool false]:List Value):=⟨_,_,rfl,(Bq:rep h (false:Bool) _),rfl⟩
 refine hK _ _ ?_
 refine Rk 3 1 [tA 4 (NN a b c),tP 0 0 0] ad aa fun av ae=>?_
 refine wl fun K hK=>?_
 refine EA 0 0 (.agg (NN a b c)) (NN a b c) ae aa fun x af ab=>hK _ _ ?_
 have ag:Kn 5 [(d,0)] [tP 0 0 0] av:=af.kp
 refine wf (wp_ret ?_)
 obtain⟨y,m,an,e⟩:=ab.settle (i:=0) rfl
 replace j:=j.mono m
 replace e:Ah ⟨w,h,A5⟩ y [(d,0)] [⟨NN a b c,some 34⟩] [⟨a,2,2,3,1,([.int .i64 0,.int .i64 0]:List Value),(([.int .i64 0,.int .i64 0]:List Value):List Value).length⟩,⟨b,2,2,3,1,([.int .i64 (-1),.int .i64 (-1)]:List Value),0⟩,⟨c,1,1,4,1,([.bool false]:List Value),0⟩] x:=e
 have s:A0 y a 2 ([0,0]:List Int):=⟨_,j,an,ab.rowCap (i:=0) rfl⟩
 obtain⟨z,o,ao,f⟩:=e.settle (i:=1) rfl
 replace k:=k.mono (XU m o)
 replace f:Ah ⟨w,h,A5⟩ z [(d,0)] [⟨NN a b c,some 34⟩] [⟨a,2,2,3,1,([.int .i64 0,.int .i64 0]:List Value),(([.int .i64 0,.int .i64 0]:List Value):List Value).length⟩,⟨b,2,2,3,1,([.int .i64 (-1),.int .i64 (-1)]:List Value),(([.int .i64 (-1),.int .i64 (-1)]:List Value):List Value).length⟩,⟨c,1,1,4,1,([.bool false]:List Value),0⟩] x:=f
 have u:A0 z b 2 ([(-1),(-1)]:List Int):=⟨_,k,ao,e.rowCap (i:=1) rfl⟩
 obtain⟨g,p,ap,q⟩:=f.settle (i:=2) rfl
 replace s:=s.mono (XU o p)
 replace u:=u.mono p
 replace l:=l.mono (XU (XU m o) p)
 replace q:Ah ⟨w,h,A5⟩ g [(d,0)] [⟨NN a b c,some 34⟩] [⟨a,2,2,3,1,([.int .i64 0,.int .i64 0]:List Value),(([.int .i64 0,.int .i64 0]:List Value):List Value).length⟩,⟨b,2,2,3,1,([.int .i64 (-1),.int .i64 (-1)]:List Value),(([.int .i64 (-1),.int .i64 (-1)]:List Value):List Value).length⟩,⟨c,1,1,4,1,([.bool false]:List Value),(([.bool false]:List Value):List Value).length⟩] x:=q
 have am:A0 g c 1 ([false]:List Bool):=⟨_,l,ap,f.rowCap (i:=2) rfl⟩
 obtain rfl:=XZ H
 exact rt (.one (.agg (NN a b c))) ag q ⟨_,rfl,((Ab (Ae s) (Ab (Ae u) (Ae am))):rep g ((As.mk ([0,0]:List Int) ([(-1),(-1)]:List Int) ([false]:List Bool)):As) _)⟩
abbrev NO (a b c:Option Addr):List SC:=[.slice a 2 2,.slice b 2 2,.slice c 1 1]
set_option maxRecDepth 100000 in
set_option maxHeartbeats 4000000 in
theorem QR (n:Nat) {h:Ad} {w:World} (hh:Dk h w)  {r:As} (H:Np n =some r) :
  Calls Try.prog 48 #[] w (Dq (fun h v=>∃ cs,v=.agg cs.toArray∧rep h r cs) h w):=by
 refine enter 5 [] Try.func48 rfl rfl rfl rfl fun t hk=>?_
 have hm:=Ah.begin h w hh
 unfold Np at H
 refine XT (Aa (wl fun K hK=>?_))
 refine wa [.slice none 0 0,.slice none 0 0,.slice none 0 0] hk hm fun d au az (ah:Kn 5 [(d,0)] [tP 0 0 0] au) al=>hK _ _ ?_
 refine wf (XT (Aa (wl fun K hK=>?_)))
 refine wS 3 1 [.int .i64 0,.int .i64 1] ah al fun a aw a0 (ai:Kn 5 [(d,0)] [tS 1 a 2 2,tP 0 0 0] aw) aj=>?_
 have j:Ag h ([0,1]:List Int) ([.int .i64 0,.int .i64 1]:List Value):=⟨_,_,rfl,(Ac:rep h (0:Int) _),⟨_,_,rfl,(Ac:rep h (1:Int) _),rfl⟩⟩
 refine hK _ _ ?_
 refine wl fun K hK=>?_
 refine wS 3 1 [.int .i64 (-1),.int .i64 (-1)] ai aj fun b aq ax (ac:Kn 5 [(d,0)] [tS 2 b 2 2,tS 1 a 2 2,tP 0 0 0] aq) ak=>?_
 have k:Ag h ([(-1),(-1)]:List Int) ([.int .i64 (-1),.int .i64 (-1)]:List Value):=⟨_,_,rfl,(Ac:rep h ((-1):Int) _),⟨_,_,rfl,(Ac:rep h ((-1):Int) _),rfl⟩⟩
 refine hK _ _ ?_
 refine wl fun K hK=>?_
 refine wS 4 1 [.bool false] ac ak fun c ar ay (ad:Kn 5 [(d,0)] [tS 3 c 1 1,tS 2 b 2 2,tS 1 a 2 2,tP 0 0 0] ar) aa=>?_
 have l:Ag h ([false]:List Bool) ([.bool false]:List Value):=⟨_,_,rfl,(Bq:rep h (false:Bool) _),rfl⟩
 refine hK _ _ ?_
 refine Rk 3 1 [tA 4 (NO a b c),tP 0 0 0] ad aa fun av ae=>?_
 refine wl fun K hK=>?_
 refine EA 0 0 (.agg (NO a b c)) (NO a b c) ae aa fun x af ab=>hK _ _ ?_
 have ag:Kn 5 [(d,0)] [tP 0 0 0] av:=af.kp
 refine wf (wp_ret ?_)
 obtain⟨y,m,an,e⟩:=ab.settle (i:=0) rfl
 replace j:=j.mono m
 replace e:Ah ⟨w,h,A5⟩ y [(d,0)] [⟨NO a b c,some 34⟩] [⟨a,2,2,3,1,([.int .i64 0,.int .i64 1]:List Value),(([.int .i64 0,.int .i64 1]:List Value):List Value).length⟩,⟨b,2,2,3,1,([.int .i64 (-1),.int .i64 (-1)]:List Value),0⟩,⟨c,1,1,4,1,([.bool false]:List Value),0⟩] x:=e
 have s:A0 y a 2 ([0,1]:List Int):=⟨_,j,an,ab.rowCap (i:=0) rfl⟩
 obtain⟨z,o,ao,f⟩:=e.settle (i:=1) rfl
 replace k:=k.mono (XU m o)
 replace f:Ah ⟨w,h,A5⟩ z [(d,0)] [⟨NO a b c,some 34⟩] [⟨a,2,2,3,1,([.int .i64 0,.int .i64 1]:List Value),(([.int .i64 0,.int .i64 1]:List Value):List Value).length⟩,⟨b,2,2,3,1,([.int .i64 (-1),.int .i64 (-1)]:List Value),(([.int .i64 (-1),.int .i64 (-1)]:List Value):List Value).length⟩,⟨c,1,1,4,1,([.bool false]:List Value),0⟩] x:=f
 have u:A0 z b 2 ([(-1),(-1)]:List Int):=⟨_,k,ao,e.rowCap (i:=1) rfl⟩
 obtain⟨g,p,ap,q⟩:=f.settle (i:=2) rfl
 replace s:=s.mono (XU o p)
 replace u:=u.mono p
 replace l:=l.mono (XU (XU m o) p)
 replace q:Ah ⟨w,h,A5⟩ g [(d,0)] [⟨NO a b c,some 34⟩] [⟨a,2,2,3,1,([.int .i64 0,.int .i64 1]:List Value),(([.int .i64 0,.int .i64 1]:List Value):List Value).length⟩,⟨b,2,2,3,1,([.int .i64 (-1),.int .i64 (-1)]:List Value),(([.int .i64 (-1),.int .i64 (-1)]:List Value):List Value).length⟩,⟨c,1,1,4,1,([.bool false]:List Value),(([.bool false]:List Value):List Value).length⟩] x:=q
 have am:A0 g c 1 ([false]:List Bool):=⟨_,l,ap,f.rowCap (i:=2) rfl⟩
 obtain rfl:=XZ H
 exact rt (.one (.agg (NO a b c))) ag q ⟨_,rfl,((Ab (Ae s) (Ab (Ae u) (Ae am))):rep g ((As.mk ([0,1]:List Int) ([(-1),(-1)]:List Int) ([false]:List Bool)):As) _)⟩
end Go.Proofs.Ytokchpjijlebiaa
